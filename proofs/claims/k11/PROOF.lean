import PyProof.Rows.All
import Wide.All
import OpenK.AllK
import Wide.FinOn
import KE.KStateDown
import Lean
import HandS.ForMost
import HandS.Exc
import HandS.TryOnly
import HandS.ExcOwn
import HandS.ExcCtx
import HandS.HotCalls
import HandS.ExcIs
import HandS.Lambda
import PyProof.SumAny
import HandS.Comp
import HandS.Defaults
import HandS.IsInst
import HandS.HeadHook1
import HandS.HeadHook2
import HandS.WordsExc
import HandS.Wide
import HandS.Evl
import HandS.SortInts
import HandS.HeadHook3
import HandS.HeadHook4
import HandS.StrMore
import HandS.Walk
import HandS.NestedK
import PyProof.P3Eq
import PyProof.StrBlock2
import PyProof.StrLawsFrom
import HandS.Head0
import HandS.Head1
import HandS.Head2
import HandS.HeadEnd
import HandS.HeadWalk
import HandS.EndTab
import PySem.Challenge.RW_tersewood_k11_numbers_in_steps
set_option Elab.async false
set_option linter.all false
set_option maxRecDepth 100000
set_option maxHeartbeats 4000000
namespace Tw
open PySem PySem.Spec PyProof.Rows L2 LamX
/-! ### a lambda called where what it lets out has no context (L2N) -/
section
variable {X : Cx} {pins : List (Addr × Obj)} {σ : L2.St} {H HZ : Hp} {s s1 : Shared}
/-- the wish of the lambda's frame -/
def lamW (X : Cx) (A : Around) (outer : List Env) (s : Shared) (H : Hp) (E : XK) (scope : Scope) (f c' : Addr) : Value → Shared → Prop :=
  fun e s' => wpAny (model X.prog X.w) (A.deeper (lamEnv X scope s.heap.objs.size f c')) (leaving (lamEnv X scope s.heap.objs.size f c') e)
    (fun _ s'' => L2N.CX X.prog X.w outer H s E e s'') (fun e' s'' => L2N.CX X.prog X.w outer H s E e' s'') s'
/-- the lambda's context, in L2N -/
def lamN (X : Cx) (A : Around) (outer : List Env) (s : Shared) (H : Hp) (E : XK) (scope : Scope) (f c' : Addr) : Cx :=
  (lamCx X A outer s H E scope f c').wish (lamW X A outer s H E scope f c')
theorem lamN_takes {A : Around} {outer : List Env} {E : XK} {scope : Scope} {f c' : Addr} :
    L2N.Takes (lamN X A outer s H E scope f c') (fun cls d _ H => E cls d H) :=
  L2N.takes_of (E₁ := fun e' s'' => L2N.CX X.prog X.w outer H s E e' s'') rfl rfl rfl rfl
/-- the call of a name that holds the lambda, in the def that got it -/
theorem act {CXg : CXT} {Eg : XK} {Ng : List Str} {qg : Str} {sg : Scope} {g f c' : Addr} {cdg pm ctv : Value} {params : Arguments} {body : Expr} {scope : Scope} {k i : Nat} {a : Str}
    {pn : List (Addr × Obj)} {xe : Value → Shared → Prop} {W : WX} {E : XK} {tb : TE} {p1 p2 : Pos}
    (I : Inv X pins σ H s) (L : LamS X.env.scope scope)
    (hf : s.heap.get? f = some (PySem.W.kla_obj "<lambda>" (X.env.qual ++ "<lambda>") params body scope (cloFrom X.env.cells scope.names []) pm c' ctv)) (hfn : H f = none) (hfr : f ∉ frs X.stack)
    (hbind : bindArgs (PySem.W.kla_fn "<lambda>" (X.env.qual ++ "<lambda>") params body scope (cloFrom X.env.cells scope.names []) pm (.ref c') ctv) ⟨[], []⟩ = pure [])
    (tk : L2N.Takes ((cxOf CXg X.prog X.w X.K X.mg X.base Ng qg sg g cdg X.A X.stack s H Eg).tr pn xe) W)
    (hW : ∀ cls d σ' H', E cls d H' → W cls d σ' H') (hr : Room (k + 1) (X.A.deeper (envOfC qg sg s.heap.objs.size g cdg)))
    (hbody : ∀ (A : Around) (outer : List Env) (s : Shared) (H : Hp), Room k (A.deeper (lamEnv X scope s.heap.objs.size f c')) → PE (lamN X A outer s H E scope f c') body tb)
    (hN : Ng[i]? = some a) (hv : Vis sg a) (hd : (a == ("__debug__" : Str)) = false) (hcd : (a == ("__classdict__" : Str)) = false) :
    PE ((cxOf CXg X.prog X.w X.K X.mg X.base Ng qg sg g cdg X.A X.stack s H Eg).tr pn xe) (.Call (.Name a p1) [] [] p2)
      (fun σZ HZ Q => σZ[i]? = some (some (.ref f)) ∧ HZ c' = some (CodeO c' (X.env.qual ++ "<lambda>")) ∧ tb σ HZ Q) := by
  constructor
  intro pinsZ sZ σZ HZ Q IZ ⟨hs, hc, ht⟩
  refine wpAny_Call_Name_kw (thn ((pe_var (pos := p1) (i := i) hN hv hd hcd).run pinsZ sZ σZ HZ (fun v H1 => v = .ref f ∧ H1 = HZ) IZ ⟨.ref f, hs, rfl, rfl⟩) fun u s1 ⟨v, H1, I1, r1, ev, eH⟩ => ?_)
  subst ev eH
  obtain rfl : u = Value.ref f := r1
  have un : Un (frs X.stack) [] H H1 s.heap s1.heap := I1.base
  have of1 := un.keep f _ hf hfn hfr (List.not_mem_nil)
  refine PySem.W.callWith_F0 ⟨_, _, _, _, of1⟩ ?_
  obtain ⟨⟨oc, vs, t, hoc, hdc, hvc⟩, _, _⟩ := I1.hok c' _ hc
  have rc : codeAny (model X.prog X.w) (X.A.deeper (envOfC qg sg s.heap.objs.size g cdg)) (.call (.ref f) ⟨[], []⟩) (CR (L2N.CX X.prog X.w) (envOfC qg sg s.heap.objs.size g cdg :: X.stack) X.prog X.w H1 s1 Q E) s1 := by
    refine PySem.W.kla_callFunE hr.depth of1 rfl L.co L.gen rfl ⟨c', oc, vs, t, rfl, hoc, hdc, hvc⟩ ?_
    rw [hbind]
    refine wpAny_pure (wpAny_newFunctionEnv (fun y hy => (L.own y hy).2) (fun y hy => absurd hy List.not_mem_nil) (fun h₁ hns hsb => ⟨I1.nolimit.fresh _ hsb, ?_⟩) L.kind)
    have kp : ∀ b o, s1.heap.get? b = some o → h₁.get? b = some o := fun b o e => hsb.extBut b o (Nat.ne_of_lt (Heap.lt_size e)) (Heap.get?_push_of_some _ e)
    have J := (lam_start2 (E := E) (A := X.A.deeper (envOfC qg sg s.heap.objs.size g cdg)) (outer := envOfC qg sg s.heap.objs.size g cdg :: X.stack) (f := f) (c' := c') (tk := s1.toks + ([] : List (Str × Value)).length) I L I1.env0 hr.hd un hns kp).wish
      (lamW X (X.A.deeper (envOfC qg sg s.heap.objs.size g cdg)) (envOfC qg sg s.heap.objs.size g cdg :: X.stack) s1 H1 E scope f c')
    refine PySem.W.kla_codeExpr (wpAny_mono ((hbody _ _ s1 H1 (hr.deeper _)).run [] _ _ H1 Q J ht) (fun v s' hq => ?_) fun e s' hq => hq)
    obtain ⟨w', H', J', rv, q⟩ := hq
    exact ⟨w', H', J'.os, J'.bare, J'.base, J'.hok, rv, q⟩
  refine wpAny_call (codeAny_mono rc fun r s' hq => ?_)
  cases r with
  | error e => exact L2N.passes_call tk hW pinsZ σZ H1 s1 e s' I1 hq
  | ok fl =>
    cases fl with
    | ret u => exact I1.after hq
    | next => exact hq.elim
    | brk => exact hq.elim
    | cont => exact hq.elim
end
end Tw

set_option maxHeartbeats 4000000
namespace Tw
open PySem PySem.Spec PyProof.Rows L2 HotX L2H
/-! ### lists walked while an exception is handled -/
section
variable {prog : Program} {w : World} {A : Around} {E : Value → Shared → Prop} {s : Shared}
/-- the list iterator's end, where an exception without a context is handled -/
theorem list_end_hot {it l x1 : Addr} {i : Nat} {items : Array Value} {Q : Option Value → Shared → Prop} (hot : HotAt A x1 s.heap) (hit : s.heap.IsListIter it l i) (hl : s.heap.IsList l items) (hx : items[i]? = none) (hne : x1 ≠ it)
    (hQ : ∀ h', Heap.ExtBut it s.heap h' → Q none { s with heap := h' }) : wpAny (model prog w) A (pyNext (.ref it)) Q E s := by
  obtain ⟨o, ho, hc, hd⟩ := id hit
  obtain ⟨ol, hol, _, nl, hdl⟩ := hl
  obtain ⟨hh, o1, vs1, h1, d1, c1⟩ := hot
  unfold pyNext
  refine wpAny_bind (wpAny_attempt (wpAny_callSpecial?_slot (name := Str.ofString "__next__") hit.typeIs slot_listiter_next (wpAny_call_entry slot_listiter_next hit.typeIs entry_listiter_next ?_ (args_listiter_next _))))
  show wpAny _ _ (field (.ref it) 0 >>= _) _ _ s
  refine wpAny_bind (wpAny_field ho hd (x := .ref l) rfl ?_)
  show wpAny _ _ (if (Value.ref l == Value.none) = true then _ else _) _ _ s
  rw [if_neg (show ¬ ((Value.ref l == Value.none) = true) from Bool.false_ne_true)]
  show wpAny _ _ (field (.ref it) 1 >>= _) _ _ s
  refine wpAny_bind (wpAny_field ho hd (x := .int i 0) rfl ?_)
  show wpAny _ _ (seqItems? (.ref l) >>= _) _ _ s
  refine wpAny_bind (wpAny_seqItems hol hdl ?_)
  simp only [Int.toNat_natCast, hx]
  refine wpAny_bind (wpAny_rule (wpAny_bind (wpAny_setField ho hd (by simp) ?_)))
  show wpAny _ _ (newExc (.type "StopIteration") [] >>= _) _ _ _
  refine wpAny_bind ?_
  simp only [newExc, newTuple]
  refine wpAny_bind (wpAny_newObj_type ?_ (by size_fits))
  refine wpAny_bind (m := firstArgMember _ _) (wpAny_of_eq (a := Value.none) (by first | rfl | (simp only [firstArgMember]; rfl)) ?_)
  refine wpAny_newObj_type ?_ (by size_fits)
  have k1 : ∀ (b : Addr) (u : Obj), b ≠ it → s.heap.get? b = some u → ∀ (f : Obj → Obj) (p q : Obj), (((s.heap.update it f).push p).push q).get? b = some u := fun b u hb e f p q =>
    Heap.get?_push_of_some _ (Heap.get?_push_of_some _ ((Heap.get?_update_other _ _ (Ne.symm hb)).trans e))
  have kx := k1 x1 o1 hne h1
  refine raiseNew_hot ⟨hh, o1, vs1, kx _ _ _, d1, c1⟩ (Nat.ne_of_lt (Heap.lt_size (Heap.get?_push_of_some _ ((Heap.get?_update_other _ _ (Ne.symm hne)).trans h1)))) (Heap.get?_push_size _ rfl) rfl (by first | (simp; done) | (simp; omega) | (simp only [Array.size_append]; simp; omega)) ?_
  refine wpAny_bind (wpAny_isInstance (T := "StopIteration") (b := true) ⟨_, Heap.get?_update_self _ (Heap.get?_push_size _ rfl) rfl, rfl⟩ isSubtype_stop ?_)
  refine wpAny_pure (hQ _ fun b u hb e => ?_)
  rw [Heap.get?_update_other _ _ (Nat.ne_of_gt (Heap.lt_size (Heap.get?_push_of_some _ ((Heap.get?_update_other _ _ (Ne.symm hb)).trans e))))]
  exact k1 b u hb e _ _ _
end

/-- a list walked there, for the library's sum -/
theorem walks_hot {prog : Program} {w : World} {A : Around} {x1 : Addr} {o1 : Obj} {vs1 : Array Value} (hh : A.handled = some (.ref x1)) (d1 : o1.data = .fields vs1) (c1 : vs1[2]? = some .none) (I ax : Addr) (hne : ax ≠ I) (hx : x1 ≠ I) (items : Array Value) :
    Walks prog w A I [I, ax, x1] [I] items.size (fun i v => items[i]? = some v) (fun i h => h.IsListIter I ax i ∧ h.IsList ax items ∧ h.get? x1 = some o1) where
  sub := fun b hb => by
    have e : b = I := List.mem_singleton.mp hb
    rw [e]
    exact List.mem_cons_self
  frame := fun _ _ _ st hk => ⟨st.1.at fun o e => hk I (by simp) o e, st.2.1.at fun o e => hk ax (by simp) o e, hk x1 (by simp) _ st.2.2⟩
  item := fun i s Q E hi st hQ => by
    refine wpAny_pyNext_list_item st.1 st.2.1 (x := items[i]) (by simp [hi]) fun h' hit' hs' => ?_
    exact hQ _ h' s.toks (by simp [hi]) ⟨hit', st.2.1.extBut hs'.extBut hne, hs'.extBut x1 _ hx st.2.2⟩ fun b o hb e => hs'.extBut b o (fun h => hb (by simp [h])) e
  done := fun s Q E st hQ => by
    refine list_end_hot ⟨hh, o1, vs1, st.2.2, d1, c1⟩ st.1 st.2.1 (by simp) hx fun h' eb => ?_
    exact hQ h' s.toks fun b o hb e => eb b o (fun h => hb (by simp [h])) e
  self := fun i s Q E st h => wpAny_pyIter_listiter st.1 h
section
variable {X : Cx} {pins : List (Addr × Obj)} {σ : L2.St} {H : Hp} {s : Shared}
/-- sum(xs) there -/
theorem cr_sumH (hc : HotC X) : CallR X (.builtin "sum") (rSum X.K) := by
  intro pins s σ H vs us Q I r h
  obtain ⟨a, ns, rfl, hs, q⟩ := h
  obtain ⟨its, rv, hl, _⟩ := I.list hs
  rw [Vals.ref1 r]
  obtain ⟨p, ⟨hh, v1, e1, c1⟩, hp⟩ := hc
  have P1 := (I.pin p (List.mem_append_left _ hp)).1
  have hi := rv.ints
  obtain ⟨xs, e⟩ := hi.allInts.items
  have hn : numsOf (intItems xs).toList = ns := by rw [← e]; exact hi.numsOf
  rw [nums_intItems] at hn
  have hl2 := hl.isList
  rw [e] at hl2
  refine call_sum_walkG (iter_intList hl2 fun s₂ es st hfp hlI => ?_)
  have k2 : ∀ b o, s.heap.get? b = some o → s₂.heap.get? b = some o := fun b o e => by
    rw [es]
    exact Heap.get?_push_of_some _ e
  have hx : p.1 ≠ s.heap.objs.size := Nat.ne_of_lt (Heap.lt_size P1)
  subst es
  refine ⟨_, _, _, _, _, _, numAt xs, rfl, walks_hot (A := X.A.in1) hh e1 c1 _ a hlI hx (intItems xs), ⟨st.1, st.2, k2 _ _ P1⟩, fun b hb => ?_, (fun _ _ => intItems_at), fun h' tk t' hk => ?_⟩
  · have hb2 : b = s.heap.objs.size ∨ b = a ∨ b = p.1 := by simpa using hb
    rcases hb2 with e | e | e
    · exact hfp b (by simp [e])
    · exact hfp b (by simp [e])
    · rw [e]
      exact Heap.lt_size (k2 _ _ P1)
  · refine ⟨.int _, H, I.kept (h' := h') (t' := tk) (old_kept hk), ⟨t', rfl⟩, ?_⟩
    have e4 : preSum (numAt xs) (intItems xs).size = ns.sum := by
      rw [show (intItems xs).size = xs.size by simp [intItems], preSum_eq, List.take_of_length_le (by simp), hn]
    rw [e4]
    exact q
end
end Tw

set_option maxHeartbeats 4000000
namespace Tw
open PySem PySem.Spec PyProof.Rows L2 HotX L2H
section
variable {X : Cx} {pins : List (Addr × Obj)} {σ : L2.St} {H : Hp} {s : Shared} {a it : Addr} {xs : List V} {i : Nat}
theorem list_item_any {A : Around} {E : Value → Shared → Prop} {x : V} (I : Inv X pins σ H s) (hq : SqL X.K H a xs) (hx : xs[i]? = some x) (st : s.heap.IsListIter it a i) (f : FpOk X pins H it) {Q : Option Value → Shared → Prop}
    (q : ∀ u s1, RelV x u → Inv X pins σ H s1 → s1.heap.IsListIter it a (i + 1) → Q (some u) s1) : wpAny (model X.prog X.w) A (pyNext (.ref it)) Q E s := by
  obtain ⟨its, rv, p, hz⟩ := I.list hq
  obtain ⟨u, hu, ru⟩ := rv.get hx
  obtain ⟨f0, f1, f2, f3, f4, f5⟩ := f
  refine wpAny_pyNext_list_item st p.isList (x := u) (by simpa using hu) fun h' st' sb => ?_
  exact q u _ ru (I.turned (t' := s.toks) (fun b o hb e => (sb.2 b hb).trans e) f0 f1 f3 f4 f5) st'
theorem list_done_hot {A : Around} {E : Value → Shared → Prop} {x1 : Addr} (I : Inv X pins σ H s) (hot : HotAt A x1 s.heap) (hq : SqL X.K H a xs) (hx : xs.length ≤ i) (st : s.heap.IsListIter it a i) (f : FpOk X pins H it) (hne : x1 ≠ it) {Q : Option Value → Shared → Prop}
    (q : ∀ s1, Inv X pins σ H s1 → Q none s1) : wpAny (model X.prog X.w) A (pyNext (.ref it)) Q E s := by
  obtain ⟨its, rv, p, hz⟩ := I.list hq
  obtain ⟨f0, f1, f2, f3, f4, f5⟩ := f
  have hl := rv.length
  exact list_end_hot hot st p.isList (by simp; omega) hne fun h' eb => q _ (I.turned (t' := s.toks) (fun b o hb e => eb b o hb e) f0 f1 f3 f4 f5)
end
section
variable {X : Cx}
/-- [elt for target in l] where an exception is handled; the list l stands still -/
def tLcH (K : PySem.W.Frag) (tl : TE) (g : TG) (te : TE) (vs : List Nat) : TE := fun σ H Q => tl σ H fun x H1 => ∃ a xs, x = .ref a ∧ SqL K H1 a xs ∧ ∀ D, H1 D = none → ∃ W : Nat → Hp → Prop, W 0 (upd H1 D (.lst [])) ∧ (∀ i H, W i H → SqL K H a xs) ∧
  (∀ i x H, xs[i]? = some x → W i H → g x (wipe σ vs) H fun σ2 H2 => wipe σ2 vs = wipe σ vs ∧ te σ2 H2 fun y H4 => ∃ acc, H4 D = some (.lst acc) ∧ acc.length < sizeLine ∧ W (i + 1) (upd H4 D (.lst (acc ++ [y])))) ∧
  (∀ H, W xs.length H → Q (.ref D) H)
theorem pe_lcH {elt tg iter : Expr} {scope : Scope} {own : List (Str × Nat)} {pos : Pos} {tl : TE} {g : TG} {te : TE} (hc : HotC X) (hN : X.N.Nodup) (hl : PE X iter tl) (ok : BlkOk X.N X.env.scope scope own)
    (hg : ∀ (s : Shared) (H : Hp) (C : Addr) (cl : List (Str × Addr)) (fp : List Addr), PG (X.blk s H scope (compEnvC scope cl C X.env) fp) tg g)
    (he : ∀ (s : Shared) (H : Hp) (C : Addr) (cl : List (Str × Addr)) (fp : List Addr), PE (X.blk s H scope (compEnvC scope cl C X.env) fp) elt te) (hs : ∀ x, foldedSetIterable iter X.env x = pure x := by intro _; rfl) :
    PE X (.ListComp elt [⟨tg, iter, [], 0⟩] scope pos) (tLcH X.K tl g te (own.map (·.2))) := by
  refine ⟨fun pins s σ H Q I h => ?_⟩
  rw [eval_ListComp]
  have hfree : ∀ y ∈ scope.names, y.2 = .free → ∃ c, X.env.cells.lookup y.1 = some c := fun y hy e => by
    rcases ok.free y hy e with k | k
    · exact I.ok.has _ (.inl k)
    · exact I.ok.has _ (.inr k)
  obtain ⟨p, ⟨hh, v1, e1, c1⟩, hp⟩ := hc
  refine wpAny_comprehension_free (use := none) rfl hs (closure_ok hfree) ok.kind (fun y hy e => by rw [ok.uniq y hy, e]) ?_
  refine thn (hl.run pins s σ H _ I h) fun v s1 ⟨x, H1, I1, r1, a, xs, ex, hq, step⟩ => ?_
  subst ex
  cases r1
  obtain ⟨its, rv, pl, hz⟩ := I1.list hq
  refine wpAny_pyIter_list pl.isList ?_
  -- the iterator, the new list, the block's frame
  generalize hit : s1.heap.objs.size = it
  have I2 : Inv X pins σ H1 { s1 with heap := s1.heap.push { cls := .type "list_iterator", data := .fields #[.ref a, .int 0 0] } } := I1.kept (t' := s1.toks) fun b o e => Heap.get?_push_of_some _ e
  have f2 : FpOk X pins H1 it := by
    have z := I1.fpOk (H' := H1) (b := it) (by rw [← hit]; exact Nat.le_refl _) (I1.hok.fresh (by rw [← hit]; exact Nat.le_refl _))
    exact z
  have st2 : ({ s1 with heap := s1.heap.push { cls := .type "list_iterator", data := .fields #[.ref a, .int 0 0] } } : Shared).heap.IsListIter it a 0 := ⟨_, by rw [← hit]; exact Heap.get?_push_size _ rfl, rfl, rfl⟩
  generalize ({ s1 with heap := s1.heap.push { cls := .type "list_iterator", data := .fields #[.ref a, .int 0 0] } } : Shared) = s2 at I2 st2 ⊢
  refine wpAny_newObj_type (newEnv_comp ?_) (by show 0 ≤ sizeLine; decide)
  generalize hD : s2.heap.objs.size = D
  have hDn : H1 D = none := I2.hok.fresh (Nat.le_of_eq hD)
  obtain ⟨W, w0, wl, wt, we⟩ := step D hDn
  generalize hs3 : ({ s2 with heap := s2.heap.push { cls := .type "list", data := .seq ([] : List Value).toArray } } : Shared) = s3
  have h3 : s3.heap = s2.heap.push { cls := .type "list", data := .seq ([] : List Value).toArray } := by rw [← hs3]
  have I3 : Inv X pins σ (upd H1 D (.lst [])) s3 := by
    rw [← hs3]
    refine I2.laid (t' := s2.toks) (fun b o e => Heap.get?_push_of_some _ e) (Nat.le_of_eq hD) ⟨Nat.zero_le _, [], 0, .nil, ?_⟩
    rw [← hD]
    exact Heap.get?_push_size _ rfl
  have ltI : it < s2.heap.objs.size := by
    obtain ⟨o, e, _⟩ := st2
    exact Heap.lt_size e
  have f3 : ∀ b ∈ [it], FpOk X pins (upd H1 D (.lst [])) b ∧ b < s3.heap.objs.size := fun b hb => by
    have eb : b = it := List.mem_singleton.mp hb
    subst eb
    refine ⟨⟨?_, f2.2⟩, by rw [h3, Heap.size_push]; exact Nat.lt_succ_of_lt ltI⟩
    rw [upd_ne (by rw [← hD]; exact Nat.ne_of_lt ltI)]
    exact f2.1
  have st3 : s3.heap.IsListIter it a 0 := st2.at fun o e => by rw [h3]; exact Heap.get?_push_of_some _ e
  have P3 := I3.pin p (List.mem_append_left _ hp)
  have hx1 : p.1 ≠ it := (f3 it List.mem_cons_self).1.2.2.2.2.2 p (List.mem_append_left _ hp)
  have I4 := block_start I3 ok hN f3
  have pg := hg s3 (upd H1 D (.lst [])) s3.heap.objs.size (cellsFrom (s3.heap.objs.size + 1) scope.names (cloFrom X.env.cells scope.names [])) [it]
  have pe := he s3 (upd H1 D (.lst [])) s3.heap.objs.size (cellsFrom (s3.heap.objs.size + 1) scope.names (cloFrom X.env.cells scope.names [])) [it]
  show codeAny _ _ (.compStart (.ListComp elt [⟨tg, iter, [], 0⟩] scope pos) 0 (.ref it) (.ref D) (compEnvC scope (cellsFrom (s3.heap.objs.size + 1) scope.names (cloFrom X.env.cells scope.names [])) s3.heap.objs.size X.env)) (compPost (model X.prog X.w) X.A X.xe none (EP X pins σ Q) (.ref D) s3.heap.objs.size) { s3 with heap := pushCells (s3.heap.push { cls := .type "dict", data := .dict #[] }) scope.names }
  generalize hce : compEnvC scope (cellsFrom (s3.heap.objs.size + 1) scope.names (cloFrom X.env.cells scope.names [])) s3.heap.objs.size X.env = ce at I4 pg pe ⊢
  have cL : ce.locals = s3.heap.objs.size := by subst hce; rfl
  generalize hH3 : upd H1 D (.lst []) = H3 at I3 I4 pg pe w0 f3 P3
  generalize hs4 : ({ s3 with heap := pushCells (s3.heap.push { cls := .type "dict", data := .dict #[] }) scope.names } : Shared) = s4 at I4 ⊢
  have k4 : ∀ b o, s3.heap.get? b = some o → s4.heap.get? b = some o := fun b o e => by
    rw [← hs4]
    exact pushCells_keeps _ _ _ _ (Heap.get?_push_of_some _ e)
  have st4 : s4.heap.IsListIter it a 0 := st3.at fun o e => k4 _ _ e
  have J4 : Inv (X.blk s3 H3 scope ce [it]) [p] (wipe σ (own.map (·.2))) H3 s4 := I4.pins_of fun q hq => by
    have eq : q = p := List.mem_singleton.mp hq
    subst eq
    refine ⟨k4 _ _ P3.1, P3.2.1, ?_, fun z => ?_, P3.2.2.2.2⟩
    · show q.1 ≠ ce.locals
      rw [cL]
      exact Nat.ne_of_lt (Heap.lt_size P3.1)
    · exact (List.mem_cons.mp (I3.stkSub q.1 z)).elim P3.2.2.1 P3.2.2.2.1
  have stat : ∀ {σ' : L2.St} {H' : Hp} {s' : Shared}, Inv (X.blk s3 H3 scope ce [it]) [p] σ' H' s' → H' it = none → FpOk (X.blk s3 H3 scope ce [it]) [p] H' it := fun {σ' H' s'} I' hn =>
    ⟨hn, (I'.ok.exf it List.mem_cons_self).1, I'.ok.exfs it List.mem_cons_self, .inl List.mem_cons_self, fun x c e => (I'.ok.exf it List.mem_cons_self).2 x c e, fun q hq => by
      have eq : q = p := by simpa using (show q ∈ ([] : List (Addr × Obj)) ++ [p] from hq)
      rw [eq]
      exact hx1⟩
  have loop : codeAny (model X.prog X.w) X.A (.compLoop (.ListComp elt [⟨tg, iter, [], 0⟩] scope pos) 0 (.ref it) (.ref D) ce) (compPost (model X.prog X.w) X.A X.xe none (EP X pins σ Q) (.ref D) s3.heap.objs.size) s4 := by
    refine compLoop_any (fun n s' => ∃ i H', i + n = xs.length ∧ Inv (X.blk s3 H3 scope ce [it]) [p] (wipe σ (own.map (·.2))) H' s' ∧ s'.heap.IsListIter it a i ∧ H' it = none ∧ W i H') ?_ xs.length ⟨0, H3, Nat.zero_add _, J4, st4, (f3 it List.mem_cons_self).1.1, w0⟩
    rintro n s5 ⟨i, H5, ein, I5, st5, n5, w5⟩
    have P5 := I5.pin p (by simp)
    have hot5 : HotAt X.A p.1 s5.heap := ⟨hh, p.2, v1, P5.1, e1, c1⟩
    have q5 : SqL X.K H5 a xs := wl i H5 w5
    cases n with
    | zero =>
      refine list_done_hot I5 hot5 q5 (by omega) st5 (stat I5 n5) hx1 fun s6 I6 => ?_
      have ei : i = xs.length := by omega
      rw [ei] at w5
      have I7 : Inv X pins σ H5 s6 := I3.call' (ch := [it]) I6.os I6.base I6.hok I6.bare fun b hb => ⟨(f3 b hb).1.2.2.2.1, (f3 b hb).1.2.1, (f3 b hb).1.2.2.2.2.1, (f3 b hb).1.2.2.2.2.2⟩
      have nC : H5 s3.heap.objs.size = none := by
        have z : H5 ce.locals = none := I6.free
        rw [cL] at z
        exact z
      obtain ⟨m, hn, _⟩ := I6.loc
      have hn : s6.heap.Ns ce.locals m := hn
      rw [cL] at hn
      refine ⟨m, hn, fun h'' sb => ?_⟩
      obtain ⟨f0, f1, f2, f3, f4, f5⟩ := I3.fpOk (Nat.le_refl _) nC
      exact ⟨.ref D, H5, I7.turned (t' := s6.toks) (fun b o hb e => (sb.2 b hb).trans e) f0 f1 f3 f4 f5, rfl, we H5 w5⟩
    | succ n =>
      have hi : i < xs.length := by omega
      have hx : xs[i]? = some xs[i] := List.getElem?_eq_getElem hi
      refine list_item_any I5 q5 hx st5 (stat I5 n5) fun u s6 ru I6 st6 => ?_
      obtain ⟨oi, ei, ci, di⟩ := id st6
      refine go_of ei ci di (by decide) ?_
      have I6' : Inv (X.blk s3 H3 scope ce [it]) ([p] ++ [(it, oi)]) (wipe σ (own.map (·.2))) H5 s6 := I6.pins_of fun q hq => by
        rcases List.mem_append.mp hq with z | z
        · exact I6.pin q (List.mem_append_right _ z)
        · have eq : q = (it, oi) := List.mem_singleton.mp z
          subst eq
          obtain ⟨g0, g1, g2, _⟩ := stat I6 n5
          exact ⟨ei, g0, g1, g2, fun v z => by rw [di] at z; cases z⟩
      refine thnF (pg.run _ s6 _ H5 xs[i] u _ I6' ru (wt i _ H5 hx w5)) fun _ s8 ⟨σ8, H8, I8, hw8, q8⟩ => ?_
      refine wpAny_tests_nil ?_
      rw [if_pos rfl]
      refine thnF (pe.run _ s8 σ8 H8 _ I8 q8) fun z s10 ⟨yv, H10, I10, r10, acc, hD10, hz10, nx⟩ => ?_
      refine app_ok (X := X.blk s3 H3 scope ce [it]) I10 hD10 hz10 r10 fun s11 I11 => ?_
      have PI := I11.pin (it, oi) (by simp)
      have hl : (wipe σ (own.map (·.2))).length = σ8.length := by rw [← hw8, wipe_length]
      refine ⟨n, Nat.lt_succ_self _, i + 1, _, by omega, (I11.pins_of (pins' := [p]) fun q hq => I11.pin q (by simp at hq ⊢; exact .inl hq)).weak hl (fun j v e => ?_), ⟨oi, PI.1, ci, di⟩, PI.2.1, nx⟩
      rw [← hw8] at e
      exact (wipe_some e).1
  exact codeAny_compStart_list loop (wpAny_pyIter_listiter st4 loop)
end
end Tw

set_option maxHeartbeats 4000000
namespace Tw
open PySem PySem.Spec PyProof.Rows L2 LamX
/-! ### what stays from one heap to a later one: all but tables of code objects, which stay tables -/
def Xt (T : List (Addr × Str)) (H H' : Hp) : Prop := (∀ b o, H b = some o → (∀ ps, o ≠ .tbl ps) → H' b = some o) ∧ (Tabs T H → Tabs T H')
section
variable {T : List (Addr × Str)} {H H1 H2 : Hp} {K : PySem.W.Frag} {a p : Addr} {o : HO} {xs : List V}
theorem Xt.refl : Xt T H H := ⟨fun _ _ h _ => h, id⟩
theorem Xt.trans (a : Xt T H H1) (b : Xt T H1 H2) : Xt T H H2 := ⟨fun c o h n => b.1 c o (a.1 c o h n) n, fun t => b.2 (a.2 t)⟩
theorem Xt.of (e : ∀ b o, H b = some o → H1 b = some o) : Xt T H H1 := ⟨fun b o h _ => e b o h, fun t => t.ext e⟩
theorem Xt.new (h : H p = none) : Xt T H (upd H p o) := .of fun b u e => by rw [upd_ne (ne_of_none e h)]; exact e
theorem tabs_upd {H' : Hp} (t : Tabs T H') (h : H' p = none ∨ ∃ xs, H' p = some (.lst xs)) (ho : ∀ ps, o ≠ .tbl ps) : Tabs T (upd H' p o) := fun q hq => by
  obtain ⟨ps, h1, h2, h3⟩ := t q hq
  have ne : ∀ b u, H' b = some u → (∀ xs, u ≠ .lst xs) → b ≠ p := fun b u e n z => by
    rw [z] at e
    rcases h with h | ⟨xs, h⟩
    · rw [h] at e
      cases e
    · rw [h] at e
      exact n xs (Option.some.inj e).symm
  refine ⟨ps, by rw [upd_ne (ne _ _ h1 fun xs z => by cases z)]; exact h1, h2, fun pos cv hc => ?_⟩
  obtain ⟨c, e1, e2⟩ := h3 pos cv hc
  exact ⟨c, e1, by rw [upd_ne (ne _ _ e2 fun xs z => by unfold CodeO at z; cases z)]; exact e2⟩
/-- no proper object of H stands at p -/
def Nw (H : Hp) (p : Addr) : Prop := ∀ o, H p = some o → ∃ ps, o = .tbl ps
theorem Nw.of (h : H p = none) : Nw H p := fun o e => by
  rw [h] at e
  cases e
theorem Xt.nw (e : Xt T H H1) (h : Nw H1 p) : Nw H p := fun o ho => by
  cases o with
  | tbl ps => exact ⟨ps, rfl⟩
  | _ => exact h _ (e.1 p _ ho fun ps z => by cases z)
theorem Nw.ne (h : Nw H p) (ha : H a = some o) (ho : ∀ ps, o ≠ .tbl ps) : a ≠ p := fun z => by
  rw [z] at ha
  obtain ⟨ps, e⟩ := h _ ha
  exact ho ps e
theorem Nw.nl (h : Nw H p) (ha : H a = some (.lst xs)) : a ≠ p := h.ne ha fun ps z => by cases z
/-- a list that H does not know is written in a later heap -/
theorem Xt.mut {H' : Hp} {ys : List V} (e : Xt T H H') (h : Nw H p) (hl : H' p = some (.lst ys)) : Xt T H (upd H' p (.lst xs)) :=
  ⟨fun b u hb n => by rw [upd_ne (h.ne hb n)]; exact e.1 b u hb n, fun t => tabs_upd (e.2 t) (.inr ⟨_, hl⟩) fun ps z => by cases z⟩
theorem Xt.lst (e : Xt T H H1) (h : H a = some (.lst xs)) : H1 a = some (.lst xs) := e.1 a _ h fun ps z => by cases z
theorem Xt.tup (e : Xt T H H1) (h : H a = some (.tup xs)) : H1 a = some (.tup xs) := e.1 a _ h fun ps z => by cases z
theorem Xt.seq (e : Xt T H H1) (h : SqL K H a xs) : SqL K H1 a xs := by
  rcases h with (h | ⟨o, h⟩) | h
  · exact .inl (.inl (e.lst h))
  · exact .inl (.inr ⟨o, e.1 a _ h fun ps z => by cases z⟩)
  · exact .inr h
theorem Xt.seqT (e : Xt T H H1) (h : SqT K H a xs) : SqT K H1 a xs := by
  rcases h with (h | ⟨o, h⟩) | h
  · exact .inl (.inl (e.tup h))
  · exact .inl (.inr ⟨o, e.1 a _ h fun ps z => by cases z⟩)
  · exact .inr h
end
/-! ### a def called with the handled exception -/
structure FnHp (P : Program) (w : World) (K : PySem.W.Frag) (mg : Str → Option Value) (base : Heap) (k : Nat) (f : Addr) (fd : FuncData) (ps : List Str) (sp : Addr × Obj → List V → Hp → VK → Prop) : Prop where
  len : ∀ p vs H Q, sp p vs H Q → vs.length = ps.length
  run : ∀ (A : Around) (outer : List Env) (s : Shared) (H : Hp) (args : Args) (us : List Value) (vs : List V) (Q : VK) (p : Addr × Obj), L2H.RoomH k A → L2H.Hot1 A p → L2H.PinOk outer H s p → Env0 P w K mg base A outer s H → BindsTo s fd args (ps.zip us) → Vals vs us → sp p vs H Q →
    codeAny (model P w) A (.call (.ref f) args) (CR CX0 outer P w H s Q E0) s
section
variable {P : Program} {w : World} {K : PySem.W.Frag} {mg : Str → Option Value} {base : Heap}
theorem fn_hp {k : Nat} {x qual : Str} {params : Arguments} {body : List Stmt} {scope : Scope} {f : Addr} {fd : FuncData} {N ps : List Str} {sp : Addr × Obj → List V → Hp → VK → Prop} (F : FunD K x qual params body scope [] [] f fd) (S : FnScope N ps scope)
    (len : ∀ p vs H Q, sp p vs H Q → vs.length = ps.length)
    (hbody : ∀ (cdv : Value) (A : Around) (outer : List Env) (s : Shared) (H : Hp) (vs : List V) (Q : VK) (p : Addr × Obj), L2H.Hot1 A p → L2H.RoomH k (A.deeper (envOfC qual scope s.heap.objs.size f cdv)) → sp p vs H Q →
      ∃ t, PSs (L2H.cxH CX0 P w K mg base N qual scope f cdv A outer s H E0 p) body t ∧ t { nx := fun _ H' => Q .non H', rt := Q } (L2.start N vs) H) :
    FnHp P w K mg base (k + 1) f fd ps sp := by
  obtain ⟨oc, od, dV, kV, doc, pm, an, cdv, ct, osl, rfl, lk, hcd, _, _⟩ := F.ex
  refine ⟨len, fun A outer s H args us vs Q p hr hot hpin e0 hb r hsp => ?_⟩
  have hl := len _ _ _ _ hsp
  have KX : K.In s.heap := e0.mod.kin.keeps fun b o e => (e0.bs b o e).1
  have lim : s.heap.NoLimit := e0.mod.nolimit.keeps fun b o e => (e0.bs b o e).1
  refine codeAny_call_function hr.depth (KX _ _ lk) rfl S.co S.gen rfl (PySem.W.codeRec_of KX hcd) (hb _ _ _ _ ?_)
  refine wpAny_newFunctionEnv_cells S.kind (fun ⟨n, v⟩ hy => ?_) fun env he s1 x => ?_
  · exact (S.par n (List.of_mem_zip hy).1).imp id fun q => ⟨q, PySem.W.cellsFrom_some _ _ _ (.inl q)⟩
  subst he
  refine ⟨lim.keeps x.toInCall.keep, codeAny_func ?_⟩
  obtain ⟨t, ht, hq⟩ := hbody cdv A outer s H vs Q p hot (hr.deeper _) hsp
  refine wpAny_mono (ht.run [] s1 (L2.start N vs) H _ (L2H.inv_startH S hpin e0 hl r x) hq) (fun fl s' hs => ?_) fun e s' hs => hs
  cases fl with
  | ret u =>
    obtain ⟨v, σ', H', J, rv, q⟩ := hs
    exact ⟨v, H', J.os, J.bare, J.base, J.hok, rv, q⟩
  | next =>
    obtain ⟨σ', H', J, q⟩ := hs
    exact ⟨V.non, H', J.os, J.bare, J.base, J.hok, rfl, q⟩
  | brk =>
    obtain ⟨_, _, _, q⟩ := hs
    exact False.elim q
  | cont =>
    obtain ⟨_, _, _, q⟩ := hs
    exact False.elim q
end
section
variable {X : Cx} {k : Nat} {f : Addr} {fd : FuncData} {ps : List Str} {sp : Addr × Obj → List V → Hp → VK → Prop} {x : Str} {q pos : Pos} {e : Expr} {es : List Expr} {t : TA}
/-- its call, p the handled exception that the context bears -/
theorem pe_callHp {p : Addr × Obj} (F : FnHp X.prog X.w X.K X.mg X.base k f fd ps sp) (hr : L2H.RoomH k X.A) (hot : L2H.Hot1 X.A p) (hp : p ∈ X.pn) (hg : Gl X x) (hm : X.mg x = some (.ref f)) (hk : PySem.W.keepIn X.K (.ref f) = true) (hb : Binds X.K fd ps [])
    (ha : PA X (e :: es) t) (hdb : (x == ("__debug__" : Str)) = false) (he : starEach (e :: es) X.env = (false, eval e X.env) :: starEach es X.env := by rfl) (hpl : (backTo pos (starEach es X.env)).any (·.1) = false := by rfl) :
    PE X (.Call (.Name x q) (e :: es) [] pos) (fun σ H Q => t σ H fun vs H1 => sp p vs H1 Q) := by
  refine ⟨fun pins s σ H Q I h => ?_⟩
  refine wpAny_Call_Name_kw (ld_glob I hg hm ?_ hdb)
  refine PySem.W.callWith_K (h₀ := X.base) I.ok.mod.kin hk (thn (ha.run pos pins s σ H _ I h) fun us s1 ⟨vs, H1, I1, r, h2⟩ => ⟨I1.kIn, ?_⟩) he hpl
  have hl : us.length = ps.length := by rw [← r.length]; exact F.len _ _ _ _ h2
  have b := hb s1 us I1.kIn (by rw [List.append_nil]; exact hl)
  rw [List.append_nil] at b
  have P1 := I1.pin p (List.mem_append_left _ hp)
  have hpin : L2H.PinOk X.stack H1 s1 p := ⟨P1.1, P1.2.1, fun hm => (List.mem_cons.mp (I1.stkSub p.1 hm)).elim P1.2.2.1 P1.2.2.2.1, P1.2.2.2.2⟩
  refine wpAny_call (codeAny_mono (F.run X.A X.stack s1 H1 ⟨us, []⟩ us vs Q p hr hot hpin I1.env0 b r h2) fun r s' hq => ?_)
  cases r with
  | error e => exact hq.elim
  | ok fl =>
    cases fl with
    | ret u => exact I1.after hq
    | next => exact hq.elim
    | brk => exact hq.elim
    | cont => exact hq.elim
/-- isinstance(e, c), e a pinned exception -/
theorem call_isP {a D : Addr} {oe : Obj} (C : ExcC X.K D) (hp : (a, oe) ∈ X.pn) (hz : Zc (.ref D) none oe) (hf : ∃ vs, oe.data = .fields vs) : CallR X (.builtin "isinstance") (rIsE X.K D a) := by
  intro pins s σ H xs us Q I r h
  obtain ⟨c, cv, b, rfl, hcv, e, q⟩ := h
  cases r with
  | cons rx rr =>
    cases rr with
    | cons rt rr =>
      cases rr
      cases rx
      have ec := hcv _ rt
      subst ec
      obtain ⟨hget, _⟩ := I.pin (a, oe) (List.mem_append_left _ hp)
      obtain ⟨vs, hv⟩ := hf
      obtain ⟨oc, od, oda, osl⟩ := oe
      obtain ⟨h1, h2⟩ := hz
      dsimp only at h1 h2 hv
      subst h1 h2 hv
      exact PySem.W.kia_one (PySem.W.handS_kitx_exc C.hg C.hk C.hs C.hd C.ha C.hn C.ht C.hm) I.kIn (H := fun h => PySem.W.InstAt h a _ D none) ⟨hget, rfl, rfl, trivial⟩ e (fun z => nomatch z) fun tk => ⟨.bl b, H, I.kept (t' := tk) fun _ _ z => z, rfl, q⟩
end
end Tw

set_option maxHeartbeats 4000000
namespace Tw
open PySem PySem.Spec PyProof.Rows L2 LamX
/-! ### what the built-in names stand for -/
section
theorem b_len : bootBuiltins "len" = some (.builtin "len") := by decide +kernel
theorem b_max : bootBuiltins "max" = some (.builtin "max") := by decide +kernel
theorem b_min : bootBuiltins "min" = some (.builtin "min") := by decide +kernel
theorem b_sum : bootBuiltins "sum" = some (.builtin "sum") := by decide +kernel
theorem b_all : bootBuiltins "all" = some (.builtin "all") := by decide +kernel
theorem b_ord : bootBuiltins "ord" = some (.builtin "ord") := by decide +kernel
theorem b_sorted : bootBuiltins "sorted" = some (.builtin "sorted") := by decide +kernel
theorem b_isinstance : bootBuiltins "isinstance" = some (.builtin "isinstance") := by decide +kernel
theorem b_int : bootBuiltins "int" = some (.type "int") := by decide +kernel
theorem b_str : bootBuiltins "str" = some (.type "str") := by decide +kernel
theorem b_bool : bootBuiltins "bool" = some (.type "bool") := by decide +kernel
theorem b_list : bootBuiltins "list" = some (.type "list") := by decide +kernel
theorem b_tuple : bootBuiltins "tuple" = some (.type "tuple") := by decide +kernel
theorem b_set : bootBuiltins "set" = some (.type "set") := by decide +kernel
theorem b_ValueError : bootBuiltins "ValueError" = some (.type "ValueError") := by decide +kernel
end
/-! ### defs by names -/
/-- the function object of the def that stands at a place -/
def fdOf (K : PySem.W.Frag) (at_ : He.Defn) : FuncData := match K.lookup (He.fAd K at_) with
  | some ⟨_, _, .func fd, _⟩ => fd
  | _ => default
theorem fdOf_of {K : PySem.W.Frag} {at_ : He.Defn} {x q : Str} {ps : Arguments} {b : List Stmt} {sc : Scope} {d : List V} {k : List (Str × V)} {fd : FuncData} (F : FunD K x q ps b sc d k (He.fAd K at_) fd) : FunD K x q ps b sc d k (He.fAd K at_) (fdOf K at_) := by
  have e : fdOf K at_ = fd := by
    obtain ⟨oc, od, dV, kV, doc, pm, an, cdv, ct, osl, e, lk, _⟩ := F.ex
    unfold fdOf
    rw [lk]
  rw [e]
  exact F
abbrev OkN (P : Program) (w : World) (K : PySem.W.Frag) (mg : Str → Option Value) (base : Heap) (at_ : He.Defn) (k : Nat) (ps : List Str) (sp : Sp) : Prop := FnOk P w K mg base (L2N.CX P w) k (He.fAd K at_) (fdOf K at_) ps sp
/-! ### exceptions -/
structure ExcF (K : PySem.W.Frag) (mg : Str → Option Value) (x : Str) : Prop where
  g : mg x = some (.ref (He.ga K x))
  f : PySem.W.excIn K (He.ga K x) He.veBase "ValueError.__new__" = true ∧ PySem.W.keepIn K (.ref (He.ga K x)) = true ∧ PySem.W.subIn K (.ref (He.ga K x)) (.type "BaseException") = some true ∧ PySem.W.typeIn K (.ref (He.ga K x)) = some (.type "type")
section
variable {P : Program} {w : World} {K : PySem.W.Frag} {mg : Str → Option Value} {base : Heap} {N : List Str} {qual : Str} {scope : Scope} {f : Addr} {cd : Value} {A : Around} {outer : List Env} {s : Shared} {H : Hp} {E : XK}
/-- in a def's body: what a callee lets out leaves -/
theorem psE (σ : L2.St) : PassesAt (L2N.CX P w) (cxOf (L2N.CX P w) P w K mg base N qual scope f cd A outer s H E) σ ((fun _ => E) σ) :=
  L2N.passAt (W := fun cls d _ H' => E cls d H') (L2N.takes_of rfl rfl rfl rfl) σ
/-- raise C('..') in a def's body -/
theorem ps_rz {x m : Str} {j : Nat} {p p2 pos pos2 : Pos} (C : ExcF K mg x) (hg : scope.names.lookup x = some .globalImplicit) (hdb : (x == ("__debug__" : Str)) = false) :
    PS (cxOf (L2N.CX P w) P w K mg base N qual scope f cd A outer s H E) (.Raise (some (.Call (.Name x p) [.Constant (.str m) j p2] [] pos)) none pos2) (fun _ _ H' => E (.ref (He.ga K x)) none H') :=
  L2N.ps_raise (W := fun cls d _ H' => E cls d H') rfl (L2N.takes_of rfl rfl rfl rfl) (L2N.pmk_own (X := cxOf (L2N.CX P w) P w K mg base N qual scope f cd A outer s H E) PySem.F.excBase_ValueError C.f.1 C.g C.f.2.1 (raises_own C.f.2.2.1 C.f.2.2.2) hg hdb)
end
section
variable {X : Cx} {A : Around} {outer : List Env} {s : Shared} {H : Hp} {E : XK} {scope : Scope} {f c' : Addr}
/-- in a lambda's body -/
theorem psL (σ : L2.St) : PassesAt (L2N.CX X.prog X.w) (lamN X A outer s H E scope f c') σ ((fun _ => E) σ) :=
  L2N.passAt (W := fun cls d _ H' => E cls d H') lamN_takes σ
/-- in a block, nothing is let out -/
theorem ps0 {X : Cx} {P : Program} {w : World} (σ : L2.St) : PassesAt (L2N.CX P w) X σ ((fun _ => E0) σ) := fun _ _ _ _ _ _ h => by
  obtain ⟨_, _, _, _, _, _, _, _, _, _, _, _, z⟩ := h
  exact z.elim
end
/-! ### the seven classes -/
def seven : List Str := ["BadNumber", "BadBits", "BadPlace", "BadText", "BadCode", "BadTree", "TooMany"]
def excCB (K : PySem.W.Frag) (C : Addr) : Bool :=
  decide (PySem.W.findIn K (.ref C) "__getattribute__" = some (some (.builtin "BaseException.__getattribute__"))) && (decide (PySem.W.findIn K (.ref C) "__getattr__" = some none) && (decide (PySem.W.subIn K (.ref C) (.type "BaseException") = some true) &&
  (PySem.W.hasDictIn K C && (decide (PySem.W.findIn K (.ref C) "__class__" = some (some (.builtin "object.__class__"))) && (decide (PySem.W.specialIn K (.builtin "object.__class__") "__get__" = some (some (.builtin "getset_descriptor.__get__"))) &&
  (decide (PySem.W.takesIn K (.builtin "object.__class__") = some true) && decide (PySem.W.mroIn K C (.type "object") = some true)))))))
theorem excCB_ok {K : PySem.W.Frag} {C : Addr} (h : excCB K C = true) : ExcC K C := by
  unfold excCB at h
  simp only [Bool.and_eq_true, decide_eq_true_eq] at h
  obtain ⟨h1, h2, h3, h4, h5, h6, h7, h8⟩ := h
  exact ⟨h1, h2, h3, h4, h5, h6, h7, h8⟩
/-- the seven, told apart -/
def exB (K : PySem.W.Frag) : Bool := seven.all fun x => excCB K (He.ga K x) && (decide (PySem.W.kitOne K (.ref (He.ga K x)) (.type "ValueError") = some true) && (decide (PySem.W.exmOne K (.ref (He.ga K x)) (.ref (He.ga K "TerseError")) = some true) && seven.all fun y => decide (PySem.W.kitOne K (.ref (He.ga K x)) (.ref (He.ga K y)) = some (decide (x = y)))))
structure Bad (K : PySem.W.Frag) (x : Str) : Prop where
  c : ExcC K (He.ga K x)
  v : PySem.W.kitOne K (.ref (He.ga K x)) (.type "ValueError") = some true
  t : PySem.W.exmOne K (.ref (He.ga K x)) (.ref (He.ga K "TerseError")) = some true
  k : ∀ y ∈ seven, PySem.W.kitOne K (.ref (He.ga K x)) (.ref (He.ga K y)) = some (decide (x = y))
theorem bad_of {K : PySem.W.Frag} {x : Str} (h : exB K = true) (hx : x ∈ seven) : Bad K x := by
  have h1 := List.all_eq_true.mp h x hx
  simp only [Bool.and_eq_true, decide_eq_true_eq] at h1
  obtain ⟨h1, h2, h3, h4⟩ := h1
  exact ⟨excCB_ok h1, h2, h3, fun y hy => of_decide_eq_true (List.all_eq_true.mp h4 y hy)⟩
end Tw

set_option maxHeartbeats 4000000
namespace Tw
open PySem PySem.Spec PyProof.Rows L2 LamX
/-! ### told(lambda: ..) -/
/-- what is wished of a refusal: its class's name is told -/
def EW (K : PySem.W.Frag) (T : List (Addr × Str)) (Q : VK) : XK := fun cls d H => ∃ x ∈ seven, cls = .ref (He.ga K x) ∧ d = none ∧ ∀ H', Xt T H H' → Q (.str x) H'
/-- the word of the exception -/
def spWord (K : PySem.W.Frag) (T : List (Addr × Str)) : Addr × Obj → List V → Hp → VK → Prop := fun p vs H Q => ∃ x ∈ seven, vs = [.ref p.1] ∧ Zc (.ref (He.ga K x)) none p.2 ∧ (∃ us, p.2.data = .fields us) ∧ ∀ H', Xt T H H' → Q (.str x) H'
/-- the context of told's frame -/
abbrev toldX (X : Cx) (Ng : List Str) (sg : Scope) (g : Addr) (cdg : Value) (s : Shared) (H : Hp) : Cx := cxOf CX0 X.prog X.w X.K X.mg X.base Ng "_law_told" sg g cdg X.A X.stack s H E0
section
variable {X : Cx}
theorem told_gen {Tt : List (Addr × Str)} {g gW c Pt : Addr} {k : Nat} {pg : Arguments} {sg : Scope} {fdT fdW : FuncData} {params : Arguments} {body : Expr} {scope : Scope} {t : XK → TE} {p lpos pos : Pos}
    {p1 p2 p3 p4 p5 p6 p7 p8 p9 p10 : Pos} (hg : Gl X "_law_told") (hm : X.mg "_law_told" = some (.ref g))
    (FT : FunD X.K "_law_told" "_law_told" pg [.Try [.Return (some (.Call (.Name "_law_deed" p1) [] [] p2)) p3] [.ExceptHandler (some (.Name "TerseError" p4)) (some "_law_e") [.Return (some (.Call (.Name "_law_word" p5) [.Name "_law_e" p6] [] p7)) p8] p9] [] [] p10] sg [] [] g fdT)
    (BT : Binds X.K fdT ["_law_deed"] []) (ST : FnScope ["_law_deed", "_law_e"] ["_law_deed"] sg) (l1 : sg.names.lookup ("_law_deed" : Str) = some .local) (l2 : sg.names.lookup ("_law_e" : Str) = some .local) (l3 : sg.names.lookup ("TerseError" : Str) = some .globalImplicit) (l4 : sg.names.lookup ("_law_word" : Str) = some .globalImplicit)
    (gE : X.mg "TerseError" = some (.ref (He.ga X.K "TerseError"))) (gW1 : X.mg "_law_word" = some (.ref gW)) (kW : PySem.W.keepIn X.K (.ref gW) = true) (BW : Binds X.K fdW ["_law_e"] []) (FW : FnHp X.prog X.w X.K X.mg X.base 1 gW fdW ["_law_e"] (spWord X.K Tt)) (xB : exB X.K = true)
    (TB : TabB X.base X.mg c Pt) (hcode : X.env.code = .ref c) (hmT : (Pt, X.env.qual ++ "<lambda>") ∈ Tt) (hu : ∀ p ∈ Tt, p.1 = Pt → p.2 = X.env.qual ++ "<lambda>") (hr : Room (k + 4) X.A) (L : LamS X.env.scope scope) (hdef : defaultsOf params X.env = ([], []))
    (hbind : ∀ (q : Str) (cl : List (Str × Addr)) (pm cv ctv : Value), bindArgs (PySem.W.kla_fn "<lambda>" q params body scope cl pm cv ctv) ⟨[], []⟩ = pure [])
    (hbody : ∀ (A : Around) (outer : List Env) (s : Shared) (H : Hp) (E : XK) (f c' : Addr), Room (k + 2) (A.deeper (lamEnv X scope s.heap.objs.size f c')) → PE (lamN X A outer s H E scope f c') body (t E)) :
    PE X (.Call (.Name "_law_told" p) [.Lambda params body scope lpos] [] pos) (fun σ H Q => Tabs Tt H ∧ ∀ H1, ExtN H H1 → Tabs Tt H1 → t (EW X.K Tt Q) σ H1 Q) := by
  refine ⟨fun pins s σ H Q I ⟨hT, h⟩ => ?_⟩
  obtain ⟨oc, od, dV, kV, doc, pm, an, cdv, ct, osl, rfl, lk, hcg, hD, _⟩ := FT.ex
  have edV : dV = .none := by
    rcases hD with ⟨_, e⟩ | ⟨e, _⟩
    · exact e
    · exact absurd rfl e
  refine wpAny_Call_Name_kw (ld_glob I hg hm ?_ (by decide))
  refine PySem.W.callWith_K (h₀ := X.base) I.ok.mod.kin FT.kp ?_ (by rfl) (by rfl)
  show wpAny _ _ (spliced ((false, eval (.Lambda params body scope lpos) X.env) :: backTo pos (starEach [] X.env))) _ _ s
  refine Calls.spliced_cons (lam_make2 I TB hcode hmT hu hT hdef (L.has I.ok) fun f c' pm' ctv H1 s' I1 eN T1 hf hfn hfr hco => ?_)
  refine Calls.spliced_nil ⟨I1.kIn, ?_⟩
  have b := BT s' [.ref f] I1.kIn rfl
  have rc : codeAny (model X.prog X.w) X.A (.call (.ref g) ⟨[.ref f], []⟩) (CR CX0 X.stack X.prog X.w H1 s' Q E0) s' := by
    refine run_ofS (k := k + 3) (N := ["_law_deed", "_law_e"]) (ps := ["_law_deed"]) (us := [.ref f]) (vs := [.ref f]) lk hcg ST hr I1.env0 b (.cons rfl .nil) rfl fun hr' => ?_
    have word : ∀ (a : Addr) (oe : Obj) (cls : Value) (d : Option Addr) (pn : List (Addr × Obj)), L2N.Zn cls d oe → (∃ vs, oe.data = .fields vs) →
        PSs ((toldX X ["_law_deed", "_law_e"] sg g cdv s' H1).suite a ((a, oe) :: pn)) [.Return (some (.Call (.Name "_law_word" p5) [.Name "_law_e" p6] [] p7)) p8]
          (fun D σ H => (∃ σ0 : L2.St, σ = σ0.set 1 (some (.ref a))) ∧ ∃ x ∈ seven, cls = .ref (He.ga X.K x) ∧ d = none ∧ ∀ H', Xt Tt H H' → D.rt (.str x) H') := by
      intro a oe cls d pn hz hfs
      have hot : L2H.Hot1 ((toldX X ["_law_deed", "_law_e"] sg g cdv s' H1).suite a ((a, oe) :: pn)).A (a, oe) := by
        obtain ⟨vs, hv⟩ := hfs
        exact ⟨rfl, vs, hv, hz.2.2 vs hv⟩
      have hp := pss_one (ps_ret (pos := p8) (pe_callHp (X := (toldX X ["_law_deed", "_law_e"] sg g cdv s' H1).suite a ((a, oe) :: pn)) (x := "_law_word") (q := p5) (pos := p7) (p := (a, oe)) FW
        (L2H.RoomH.mono (k := k + 3) ⟨hr'.dp, hr'.un⟩ (by omega)) hot List.mem_cons_self (show sg.names.lookup ("_law_word" : Str) = _ from l4) gW1 kW BW (pa_cons (pe_var (i := 1) (pos := p6) rfl (.inl l2)) pa_nil) (by decide)))
      refine ⟨fun pins s σ H D I ⟨⟨σ0, h1⟩, x, hx, e1, e2, h2⟩ => hp.run pins s σ H D I ?_⟩
      have hl : σ.length = 2 := I.len
      have h1 : σ[1]? = some (some (.ref a)) := by
        rw [h1] at hl ⊢
        rw [List.length_set] at hl
        rw [List.getElem?_set_self (by omega)]
      refine ⟨.ref a, h1, x, hx, rfl, ?_, hfs, h2⟩
      rw [← e1, ← e2]
      exact hz.zc
    refine ⟨_, PSs.nox (pss_one (L2N.ps_try_as (X := (toldX X ["_law_deed", "_law_e"] sg g cdv s' H1).nox) (c := .ref (He.ga X.K "TerseError")) (i := 1) (Wout := fun _ _ _ _ => False)
      (tb := fun W D σ' H' => ∃ Ech : XK, (∀ cls d σ' H', Ech cls d H' → W cls d σ' H') ∧ σ'[0]? = some (some (.ref f)) ∧ H' c' = some (CodeO c' (X.env.qual ++ "<lambda>")) ∧ t Ech σ H' D.rt)
      rfl rfl ST.nd rfl l2 ⟨l3, by decide, .inl gE⟩ (fun _ _ x => by obtain ⟨_, _, _, _, _, _, _, _, _, _, _, _, _, _, _, _, z⟩ := x; exact z.elim) (fun W pn xe tk _ => ?_) word)), ?_⟩
    · refine ⟨fun pins s2 σ2 H2 D I2 ⟨Ech, hW, h1, h2, h3⟩ => ?_⟩
      have hp := act (pn := pn) (xe := xe) (W := W) (E := Ech) (tb := t Ech) (p1 := p1) (p2 := p2) (a := "_law_deed") (i := 0) (Ng := ["_law_deed", "_law_e"]) (CXg := CX0) (Eg := E0) (qg := "_law_told") (sg := sg) (g := g) (cdg := cdv) I1 L hf hfn hfr (hbind _ _ _ _ _) tk hW hr'
        (fun A outer s H hr2 => hbody A outer s H Ech f c' hr2) rfl (.inl l1) (by decide) (by decide)
      exact (pss_one (ps_ret (pos := p3) hp)).run pins s2 σ2 H2 D I2 ⟨h1, h2, h3⟩
    · refine ⟨EW X.K Tt Q, fun cls d σ2 H2 ⟨x, hx, e1, e2, h2⟩ => ?_, rfl, hco, h H1 eN T1⟩
      refine ⟨true, by rw [e1]; exact (bad_of xB hx).t, fun _ a na => ?_, fun z => by cases z⟩
      exact ⟨⟨σ2, rfl⟩, x, hx, e1, e2, h2⟩
  refine wpAny_call (codeAny_mono rc fun r s2 hq => ?_)
  cases r with
  | error e => exact (show False from hq).elim
  | ok fl =>
    cases fl with
    | ret u => exact I1.after hq
    | next => exact False.elim hq
    | brk => exact False.elim hq
    | cont => exact False.elim hq
end
end Tw

set_option maxHeartbeats 4000000
namespace Tw
open PySem PySem.Spec PyProof.Rows L2 LamX
/-! ### comprehensions whose elements change nothing that stood -/
def Yy (y : Nat → V → Prop) : Nat → Hp → V → Hp → Prop := fun i H x H' => H' = H ∧ y i x
def kept (n : Nat) (f : Nat → Bool) (r : Nat → V) : List V := ((List.range n).filter f).map r
theorem kept_yes {n : Nat} {f : Nat → Bool} {r : Nat → V} (h : f n = true) : kept (n + 1) f r = kept n f r ++ [r n] := by
  unfold kept
  rw [List.range_succ, List.filter_append, List.map_append, List.filter_cons, if_pos h]
  rfl
theorem kept_no {n : Nat} {f : Nat → Bool} {r : Nat → V} (h : f n = false) : kept (n + 1) f r = kept n f r := by
  unfold kept
  rw [List.range_succ, List.filter_append, List.map_append, List.filter_cons, if_neg (by rw [h]; decide)]
  exact List.append_nil _
theorem kept_len (n : Nat) (f : Nat → Bool) (r : Nat → V) : (kept n f r).length ≤ n := by
  unfold kept
  rw [List.length_map]
  exact Nat.le_trans (List.length_filter_le _ _) (by rw [List.length_range]; exact Nat.le_refl _)
theorem kept_all (n : Nat) (r : Nat → V) : kept n (fun _ => true) r = (List.range n).map r := by
  unfold kept
  rw [List.filter_eq_self.mpr fun _ _ => rfl]
section
variable {T : List (Addr × Str)} {J : It} {n : Nat} {G : Hp → Prop} {y : Nat → V → Prop} {te : TE} {tt : TT} {j : Nat} {σ : L2.St} {H1 : Hp} {D : Addr} {Qd : Hp → Prop} {f : Nat → Bool} {r : Nat → V}
theorem wipe1 (σ : L2.St) (j : Nat) (x : Option V) : wipe ((wipe σ [j]).set j x) [j] = wipe σ [j] := by
  show ((σ.set j none).set j x).set j none = σ.set j none
  rw [List.set_set, List.set_set]
/-- with a test -/
theorem lcF (w : Walk J n G (Yy y)) (hD : H1 D = none) (hn : n ≤ 1000000) (hG : ∀ H', Xt T H1 H' → G H') (f : Nat → Bool) (r : Nat → V)
    (ht : ∀ i x H', i < n → y i x → Xt T H1 H' → ∀ Q : Bool → Hp → Prop, (∀ H4, Xt T H' H4 → Q (f i) H4) → tt ((wipe σ [j]).set j (some x)) H' Q)
    (he : ∀ i x H', i < n → y i x → f i = true → Xt T H1 H' → ∀ Q : VK, (∀ H4, Xt T H' H4 → Q (r i) H4) → te ((wipe σ [j]).set j (some x)) H' Q)
    (hd : ∀ H', Xt T H1 H' → H' D = some (.lst (kept n f r)) → Qd H') :
    ∃ W : Nat → Nat → Hp → Prop, (∃ m, W 0 m (upd H1 D (.lst []))) ∧ ∀ i m H, W i m H →
      (J.stop i H ∧ Qd H) ∨ (J.go i H ∧ ∃ Nx : Hp → Prop, (∀ H', Nx H' → ∃ m', m' < m ∧ W (i + 1) m' H') ∧ ∀ x H', J.yld i H x H' → gName j x (wipe σ [j]) H' fun σ2 H2 => wipe σ2 [j] = wipe σ [j] ∧ tt σ2 H2 fun b H3 =>
        if b = true then te σ2 H3 fun y H4 => ∃ acc, H4 D = some (.lst acc) ∧ acc.length < sizeLine ∧ Nx (upd H4 D (.lst (acc ++ [y]))) else Nx H3) := by
  have hz : ∀ i, i < n → (kept i f r).length < sizeLine := fun i hi => Nat.lt_of_le_of_lt (Nat.le_trans (kept_len i f r) (Nat.le_trans (Nat.le_of_lt hi) hn)) (by decide)
  refine lc_it w (fun i H => Xt T H1 H ∧ H D = some (.lst (kept i f r))) ⟨Xt.new hD, by rw [upd_same]; rfl⟩ (fun i H _ p => hG H p.1) (fun i x H H' hi p hy => ?_) fun H p => hd H p.1 p.2
  obtain ⟨eH, hy⟩ := hy
  subst eH
  refine ⟨wipe1 σ j _, ht i x H' hi hy p.1 _ fun H4 x4 => ?_⟩
  cases hf : f i with
  | true =>
    refine iteT (he i x H4 hi hy hf (p.1.trans x4) _ fun H5 x5 => ?_)
    have e5 := (x4.trans x5).lst p.2
    refine ⟨kept i f r, e5, hz i hi, ((p.1.trans x4).trans x5).mut (.of hD) e5, ?_⟩
    rw [upd_same, kept_yes hf]
  | false =>
    refine iteF ⟨p.1.trans x4, ?_⟩
    rw [kept_no hf]
    exact x4.lst p.2
/-- without one -/
theorem lcP (w : Walk J n G (Yy y)) (hD : H1 D = none) (hn : n ≤ 1000000) (hG : ∀ H', Xt T H1 H' → G H') (r : Nat → V)
    (he : ∀ i x H', i < n → y i x → Xt T H1 H' → ∀ Q : VK, (∀ H4, Xt T H' H4 → Q (r i) H4) → te ((wipe σ [j]).set j (some x)) H' Q)
    (hd : ∀ H', Xt T H1 H' → H' D = some (.lst ((List.range n).map r)) → Qd H') :
    ∃ W : Nat → Nat → Hp → Prop, (∃ m, W 0 m (upd H1 D (.lst []))) ∧ ∀ i m H, W i m H →
      (J.stop i H ∧ Qd H) ∨ (J.go i H ∧ ∃ Nx : Hp → Prop, (∀ H', Nx H' → ∃ m', m' < m ∧ W (i + 1) m' H') ∧ ∀ x H', J.yld i H x H' → gName j x (wipe σ [j]) H' fun σ2 H2 => wipe σ2 [j] = wipe σ [j] ∧ tYes σ2 H2 fun b H3 =>
        if b = true then te σ2 H3 fun y H4 => ∃ acc, H4 D = some (.lst acc) ∧ acc.length < sizeLine ∧ Nx (upd H4 D (.lst (acc ++ [y]))) else Nx H3) :=
  lcF w hD hn hG (fun _ => true) r (fun i x H' _ _ _ Q q => q H' Xt.refl) (fun i x H' hi hy _ => he i x H' hi hy) fun H' x' e => hd H' x' (by rw [e, kept_all])
end
section
variable {K : PySem.W.Frag} {a : Addr} {xs : List V}
theorem w_list : Walk (Itl K a) xs.length (fun H => SqL K H a xs) (Yy fun i x => xs[i]? = some x) := walk_list
theorem w_range {lo : Int} {n : Nat} : Walk (Itr lo n) n (fun _ => True) (Yy fun i x => x = .int (lo + i)) := walk_range
theorem w_rangeC {lo c : Int} {n : Nat} : Walk (Itc lo c n) n (fun _ => True) (Yy fun i x => x = .int (lo + (i : Nat) * c)) := walk_rangeC
end
theorem small_up {a b c : Int} (ha : 0 ≤ a ∧ a ≤ 1000000) (hb : 0 ≤ b ∧ b ≤ 1000000) (hc : 1 ≤ c ∧ c ≤ 1000000) : Builtin.Range.small a b c = true := by
  unfold Builtin.Range.small Builtin.Range.rangeSize
  have h1 : (b - a - 1) / c ≤ b - a - 1 ∨ b - a - 1 < 0 := by
    by_cases h : b - a - 1 < 0
    · exact .inr h
    · exact .inl (Int.ediv_le_self _ (by omega))
  have h2 : 0 ≤ (b - a - 1) / c ∨ b - a - 1 < 0 := by
    by_cases h : b - a - 1 < 0
    · exact .inr h
    · exact .inl (Int.ediv_nonneg (by omega) (by omega))
  simp only [Builtin.Range.rangeFitsLong, Bool.and_eq_true, Bool.or_eq_true, decide_eq_true_eq, beq_iff_eq, show c > 0 by omega, if_true]
  split <;> omega
/-! ### texts by their codes -/
def S (l : List Nat) : Str := ⟨l.toArray⟩
theorem S_app (a b : List Nat) : S a ++ S b = S (a ++ b) := by
  show (⟨a.toArray ++ b.toArray⟩ : Str) = ⟨(a ++ b).toArray⟩
  rw [List.append_toArray]
theorem S_len (l : List Nat) : (S l).length = l.length := by
  show l.toArray.size = l.length
  exact List.size_toArray
theorem S_inj {a b : List Nat} (h : S a = S b) : a = b := by
  have e : (S a).cps = (S b).cps := congrArg Str.cps h
  have e2 : a.toArray = b.toArray := e
  exact congrArg Array.toList e2
theorem S_of (z : Str) : z = S z.cps.toList := by
  cases z
  rfl
theorem w_str {l : List Nat} : Walk (Its (S l)) l.length (fun _ => True) (Yy fun i x => ∃ c, l[i]? = some c ∧ x = .str (S [c])) := by
  have h := walk_str (z := S l)
  have e : (S l).cps.size = l.length := S_len l
  rw [e] at h
  refine h.mono (fun _ _ => trivial) fun i H x H' _ _ y => ⟨y.1, ?_⟩
  obtain ⟨c, h1, h2⟩ := y.2
  exact ⟨c, by simpa [S] using h1, h2⟩
/-- bits as a text -/
def bc (b : Bool) : Nat := if b then 49 else 48
def sb (l : List Bool) : Str := S (l.map bc)
theorem sb_app (a b : List Bool) : sb a ++ sb b = sb (a ++ b) := by
  unfold sb
  rw [S_app, List.map_append]
theorem sb_len (l : List Bool) : (sb l).length = l.length := by
  unfold sb
  rw [S_len, List.length_map]
theorem bc_inj {a b : Bool} (h : bc a = bc b) : a = b := by
  cases a <;> cases b <;> first | rfl | cases h
theorem sb_inj {a b : List Bool} (h : sb a = sb b) : a = b := by
  have e := S_inj h
  exact (List.map_inj_right (f := bc) fun x y => bc_inj).mp e
theorem sb_nil : (Str.ofString "" : Str) = sb [] := by decide +kernel
theorem sb_0 : (Str.ofString "0" : Str) = sb [false] := by decide +kernel
theorem sb_1 : (Str.ofString "1" : Str) = sb [true] := by decide +kernel
/-! ### slices -/
theorem cut_S (l : List Nat) (i j : Nat) : cutS (S l) (some (i : Int)) (some (j : Int)) = S ((l.take j).drop i) := by
  unfold cutS
  rw [HT.sIx_nat, HT.sIx_nat, S_len]
  show (⟨_⟩ : Str) = ⟨_⟩
  congr 2
  show ((l.drop (min i l.length)).take (min j l.length - min i l.length)) = _
  rw [List.drop_take]
  by_cases hi : i ≤ l.length
  · rw [Nat.min_eq_left hi]
    by_cases hj : j ≤ l.length
    · rw [Nat.min_eq_left hj]
    · rw [Nat.min_eq_right (by omega), List.take_of_length_le (by rw [List.length_drop]; omega), List.take_of_length_le (by rw [List.length_drop]; omega)]
  · rw [List.drop_eq_nil_of_le (by omega : l.length ≤ min i l.length), List.drop_eq_nil_of_le (by omega : l.length ≤ i)]
    simp
theorem cut_sb (l : List Bool) (i j : Nat) : cutS (sb l) (some (i : Int)) (some (j : Int)) = sb ((l.take j).drop i) := by
  unfold sb
  rw [cut_S, List.map_drop, List.map_take]
end Tw

set_option maxHeartbeats 4000000
namespace Tw
open PySem PySem.Spec PyProof.Rows L2 LamX
section
variable {P : Program} {w : World} {K : PySem.W.Frag} {mg : Str → Option Value} {base : Heap} {x qual : Str} {params : Arguments} {body : List Stmt} {scope : Scope} {fd : FuncData} {at_ : He.Defn}
/-- the rule for a def that makes lambdas: its code object is known -/
theorem okC {CX : CXT} {N ps : List Str} {k : Nat} {sp : Sp} (F : FunD K x qual params body scope [] [] (He.fAd K at_) fd) (S : FnScope N ps scope) (len : ∀ vs H Q E, sp vs H Q E → vs.length = ps.length)
    (hbody : ∀ (A : Around) (outer : List Env) (s : Shared) (H : Hp) (vs : List V) (Q : VK) (E : XK), Room k (A.deeper (envOfC qual scope s.heap.objs.size (He.fAd K at_) (.ref (He.cT K at_).1))) → sp vs H Q E →
      ∃ t, PSs (cxOf CX P w K mg base N qual scope (He.fAd K at_) (.ref (He.cT K at_).1) A outer s H E) body t ∧ t { nx := fun _ H' => Q .non H', rt := Q } (L2.start N vs) H) : FnOk P w K mg base CX (k + 1) (He.fAd K at_) fd ps sp := by
  obtain ⟨oc, od, dV, kV, doc, pm, an, cdv, ct, osl, rfl, lk, hcd, _, _⟩ := F.ex
  obtain ⟨c, e⟩ := He.codeIn_ref hcd
  have e2 : cdv = .ref (He.cT K at_).1 := by
    rw [e]
    exact congrArg Value.ref (He.codeOf_eq lk e).symm
  subst e2
  exact fn_of lk hcd S len fun A outer s H vs Q E hr hsp => hbody A outer s H vs Q E hr hsp
end
/-- the empty tables of the start -/
theorem tabs_start {K : PySem.W.Frag} {H : Hp} {tf : List He.Defn} {q : He.Defn → Str} (h : ∀ p ∈ tf.map (He.cT K), H p.2 = some (.tbl #[])) : Tabs (tf.map fun d => ((He.cT K d).2, q d)) H := fun p hp => by
  obtain ⟨d, hd, rfl⟩ := List.mem_map.mp hp
  exact TabS.nil (h _ (List.mem_map_of_mem hd))
end Tw

set_option maxHeartbeats 4000000
namespace Tw
open PySem PySem.Spec PyProof.Rows L2 LamX
/-! ### data compared -/
def Sh (n : Nat) (d : PyData) : Prop := d.canLay0 = true ∧ d.depth ≤ n
section
variable {n m : Nat} {d e : PyData} {ds : List PyData}
theorem Sh.shaped (h : Sh n d) (hn : n ≤ 64) : SeqAt.shaped d = true := by
  unfold SeqAt.shaped
  rw [h.1, Bool.true_and]
  exact decide_eq_true (Nat.le_trans h.2 hn)
theorem Sh.mono (h : Sh n d) (hn : n ≤ m) : Sh m d := ⟨h.1, Nat.le_trans h.2 hn⟩
theorem sh_int {i : Int} : Sh n (.int i) := ⟨rfl, Nat.zero_le _⟩
theorem sh_bl {b : Bool} : Sh n (.bool b) := ⟨rfl, Nat.zero_le _⟩
theorem sh_non : Sh n .none := ⟨rfl, Nat.zero_le _⟩
theorem sh_str {x : Str} (h : PyData.strOk x = true) : Sh n (.str x) := ⟨h, Nat.zero_le _⟩
theorem sh_all : ∀ {ds : List PyData}, (∀ d ∈ ds, Sh n d) → PyData.canLayAll0 ds = true ∧ PyData.depthAll ds ≤ n
  | [], _ => ⟨rfl, Nat.zero_le _⟩
  | d :: ds, h => by
    obtain ⟨h1, h2⟩ := sh_all (ds := ds) fun x hx => h x (List.mem_cons_of_mem _ hx)
    obtain ⟨h3, h4⟩ := h d (List.mem_cons_self ..)
    refine ⟨?_, ?_⟩
    · show (d.canLay0 && PyData.canLayAll0 ds) = true
      rw [h1, h3]
      rfl
    · show max d.depth (PyData.depthAll ds) ≤ n
      omega
theorem sh_lst (h : ∀ d ∈ ds, Sh n d) : Sh (n + 1) (.list ds) := ⟨(sh_all h).1, Nat.succ_le_succ (sh_all h).2⟩
theorem sh_tup (h : ∀ d ∈ ds, Sh n d) : Sh (n + 1) (.tuple ds) := ⟨(sh_all h).1, Nat.succ_le_succ (sh_all h).2⟩
theorem sh_map {α : Type} {g : α → PyData} {l : List α} (h : ∀ x ∈ l, Sh n (g x)) : ∀ d ∈ l.map g, Sh n d := fun d hd => by
  obtain ⟨x, hx, rfl⟩ := List.mem_map.mp hd
  exact h x hx
theorem strOk_S {l : List Nat} (h : ∀ c ∈ l, c < 1114112) : PyData.strOk (S l) = true := by
  unfold PyData.strOk S
  rw [Array.all_eq_true_iff_forall_mem]
  intro c hc
  exact decide_eq_true (h c (by simpa using hc))
theorem strOk_sb (l : List Bool) : PyData.strOk (sb l) = true := strOk_S fun c hc => by
  obtain ⟨b, _, rfl⟩ := List.mem_map.mp hc
  cases b <;> decide
end
section
variable {K : PySem.W.Frag} {T : List (Addr × Str)} {H H' : Hp} {Q : VK} {x y : V} {d e : PyData} {n : Nat} {a : Addr}
theorem neD_same (hx : Dp K H x d) (hy : Dp K H y d) (s : Sh 64 d) (q : Q (.bl false) H) : rNeD K x y H Q := by
  refine ⟨d, d, hx, hy, s.shaped (Nat.le_refl _), s.shaped (Nat.le_refl _), ?_⟩
  rw [PySem.SeqAt.eqv_refl d s.1]
  exact q
theorem neC_same {σ : L2.St} (hx : Dp K H x d) (hy : Dp K H y d) (s : Sh 64 d) (q : Q (.bl false) H) : tC y σ H fun y H2 => rNeD K x y H2 Q := neD_same hx hy s q
theorem eqD_same (hx : Dp K H x d) (hy : Dp K H y d) (s : Sh 64 d) (q : Q (.bl true) H) : rEqD K x y H Q := by
  refine ⟨d, d, hx, hy, s.shaped (Nat.le_refl _), s.shaped (Nat.le_refl _), ?_⟩
  rw [PySem.SeqAt.eqv_refl d s.1]
  exact q
theorem neD_diff (hx : Dp K H x d) (hy : Dp K H y e) (sx : Sh 64 d) (sy : Sh 64 e) (h : PyData.eqv d e = false) (q : Q (.bl true) H) : rNeD K x y H Q := by
  refine ⟨d, e, hx, hy, sx.shaped (Nat.le_refl _), sy.shaped (Nat.le_refl _), ?_⟩
  rw [h]
  exact q
theorem eqD_of (hx : Dp K H x d) (hy : Dp K H y e) (sx : Sh 64 d) (sy : Sh 64 e) (q : Q (.bl (PyData.eqv d e)) H) : rEqD K x y H Q := ⟨d, e, hx, hy, sx.shaped (Nat.le_refl _), sy.shaped (Nat.le_refl _), q⟩
theorem neD_of (hx : Dp K H x d) (hy : Dp K H y e) (sx : Sh 64 d) (sy : Sh 64 e) (q : Q (.bl (!PyData.eqv d e)) H) : rNeD K x y H Q := ⟨d, e, hx, hy, sx.shaped (Nat.le_refl _), sy.shaped (Nat.le_refl _), q⟩
theorem dpAll_map {α : Type} {f : α → V} {g : α → PyData} : ∀ {l : List α}, (∀ x ∈ l, Dp K H (f x) (g x)) → DpAll K H (l.map f) (l.map g)
  | [], _ => .nil
  | x :: l, h => .cons (h x (List.mem_cons_self ..)) (dpAll_map fun y hy => h y (List.mem_cons_of_mem _ hy))
theorem dp_lst {α : Type} {f : α → V} {g : α → PyData} {l : List α} (s : SqL K H a (l.map f)) (h : ∀ x ∈ l, Dp K H (f x) (g x)) : Dp K H (.ref a) (.list (l.map g)) := .lst s (dpAll_map h)
theorem dp_ints {l : List Int} (s : SqL K H a (l.map .int)) : Dp K H (.ref a) (.list (l.map .int)) := dp_lst s fun x _ => .int x
theorem dp_strs {l : List Str} (s : SqL K H a (l.map .str)) : Dp K H (.ref a) (.list (l.map .str)) := dp_lst s fun x _ => .str x
theorem sh_ints {l : List Int} : Sh (n + 1) (.list (l.map .int)) := sh_lst (sh_map fun _ _ => sh_int)
theorem sh_strs {l : List Str} (h : ∀ x ∈ l, PyData.strOk x = true) : Sh (n + 1) (.list (l.map .str)) := sh_lst (sh_map fun x hx => sh_str (h x hx))
mutual
theorem Xt.dp (X : Xt T H H') : ∀ (d : PyData) (v : V), Dp K H v d → Dp K H' v d
  | .none, _, h => by cases h; exact .non
  | .bool b, _, h => by cases h; exact .bl b
  | .int i, _, h => by cases h; exact .int i
  | .str x, _, h => by cases h; exact .str x
  | .list ds, _, h => by
    cases h with
    | lst s h => exact .lst (X.seq s) (Xt.dpAll X ds _ h)
  | .tuple ds, _, h => by
    cases h with
    | tup s h => exact .tup (X.seqT s) (Xt.dpAll X ds _ h)
  | .dict _, _, h => by cases h
theorem Xt.dpAll (X : Xt T H H') : ∀ (ds : List PyData) (vs : List V), DpAll K H vs ds → DpAll K H' vs ds
  | [], _, h => by cases h; exact .nil
  | d :: ds, _, h => by
    cases h with
    | cons h1 h2 => exact .cons (Xt.dp X d _ h1) (Xt.dpAll X ds _ h2)
end
/-- lists of numbers, told alike -/
theorem eqvAll_ints : ∀ (l m : List Int), PyData.eqvAll (l.map .int) (m.map .int) = decide (l = m)
  | [], [] => rfl
  | [], _ :: _ => rfl
  | _ :: _, [] => rfl
  | x :: l, y :: m => by
    show ((x == y) && PyData.eqvAll (l.map .int) (m.map .int)) = _
    rw [eqvAll_ints l m, Bool.eq_iff_iff]
    simp
theorem eqv_ints (l m : List Int) : PyData.eqv (.list (l.map .int)) (.list (m.map .int)) = decide (l = m) := eqvAll_ints l m
end
end Tw

set_option maxHeartbeats 4000000
namespace Tw
open PySem PySem.Spec PyProof.Rows L2 LamX
/-! ### rules, the written part by its own name -/
section
variable {X : Cx} {K : PySem.W.Frag} (eK : X.K = K)
def rLenQ (K : PySem.W.Frag) : List V → Hp → VK → Prop := fun xs H Q => ∃ p ys, xs = [.ref p] ∧ (SqL K H p ys ∨ SqT K H p ys) ∧ Q (.int ys.length) H
def rListQ (K : PySem.W.Frag) : List V → Hp → VK → Prop := fun xs H Q => ∃ p ys, xs = [.ref p] ∧ (SqL K H p ys ∨ SqT K H p ys) ∧ ∀ l, H l = none → Q (.ref l) (upd H l (.lst ys))
include eK
theorem call_len_seqK : CallR X (.builtin "len") (rLenQ K) := by subst eK; exact call_len_seq
theorem call_list_ofK : CallR X (.type "list") (rListQ K) := by subst eK; exact call_list_of
theorem ix_listK : IxR X (rIxL K) := by subst eK; exact ix_list
theorem ix_tupK : IxR X (rIxT K) := by subst eK; exact ix_tup
theorem sl_listK : SlR X (rSlL K) := by subst eK; exact sl_list
theorem op_eqDK (hu : X.A.units + 64 < cLine) : OpR X (compareOp .Eq) (rEqD K) := by subst eK; exact op_eqD hu
theorem op_neDK (hu : X.A.units + 64 < cLine) : OpR X (compareOp .NotEq) (rNeD K) := by subst eK; exact op_neD hu
theorem cr_maxK (hc : X.calm = true) : CallR X (.builtin "max") (rMax K) := by subst eK; exact cr_max hc
theorem cr_minK (hc : X.calm = true) : CallR X (.builtin "min") (rMin K) := by subst eK; exact cr_min hc
theorem cr_allK (hc : X.calm = true) : CallR X (.builtin "all") (rAll K) := by subst eK; exact cr_all hc
theorem cr_sumK (hc : X.calm = true) : CallR X (.builtin "sum") (rSum K) := by subst eK; exact cr_sum hc
theorem mt_indexK : MtR X "list.index" (rIndex K) := by subst eK; exact mt_index
theorem op_in_seqK : OpR X (compareOp .In) (rIn K false) := by subst eK; exact op_in_seq
theorem op_notIn_seqK : OpR X (compareOp .NotIn) (rIn K true) := by subst eK; exact op_notIn_seq
theorem call_isiK : CallR X (.builtin "isinstance") (rIsi K) := by subst eK; exact call_isi
theorem cr_sortedIK : CallR X (.builtin "sorted") (rSortedI K) := by subst eK; exact cr_sortedI
end
section
variable {X : Cx} {K : PySem.W.Frag} {tg : Expr}
theorem pi_listK (eK : X.K = K) {l : Expr} {tl : TE} (hl : PE X l tl) : PI X tg l (iList K tl) := by subst eK; exact pi_list hl
theorem pi_tupK (eK : X.K = K) {l : Expr} {tl : TE} (hl : PE X l tl) : PI X tg l (iTup K tl) := by subst eK; exact pi_tup hl
def rJoin (K : PySem.W.Frag) : V → List V → Hp → VK → Prop := fun x xs H Q => ∃ a p, ∃ ys : List Str, x = .str a ∧ xs = [.ref p] ∧ (SqL K H p (ys.map V.str) ∨ SqT K H p (ys.map V.str)) ∧ (ys.map (·.length)).sum + ys.length * a.length ≤ 16777216 ∧ Q (.str (Txt.join a ys)) H
theorem pe_joinK (eK : X.K = K) {o e : Expr} {to te : TE} {apos pos : Pos} (ho : PE X o to) (he : PE X e te) (hs : starEach [e] X.env = [(false, eval e X.env)]) (hbase : attributeBase o "join" X.env (eval o X.env) = eval o X.env) (hline : (apos.endLine == pos.line) = true) :
    PE X (.Call (.Attribute o "join" apos) [e] [] pos) (tM1 (rJoin K) to te) := by subst eK; exact pe_join ho he hs hbase hline
theorem pi_enumK (eK : X.K = K) {e : Expr} {ta : TA} {p pos tpos : Pos} {elts : List Expr} {kk : Nat} (hg : Gl X "enumerate") (hm : X.mg "enumerate" = none) (ha : PA X [e] ta) (hs : starEach [e] X.env = [(false, eval e X.env)]) :
    PI X (.Tuple elts kk tpos) (.Call (.Name "enumerate" p) [e] [] pos) (iEnum K ta) := by subst eK; exact pi_enum hg hm ha hs
theorem pi_zipK (eK : X.K = K) {e e2 : Expr} {ta : TA} {p pos tpos : Pos} {elts : List Expr} {kk : Nat} (hg : Gl X "zip") (hm : X.mg "zip" = none) (ha : PA X [e, e2] ta)
    (hs : starEach [e, e2] X.env = (false, eval e X.env) :: starEach [e2] X.env) (hpl : (backTo pos (starEach [e2] X.env)).any (·.1) = false) :
    PI X (.Tuple elts kk tpos) (.Call (.Name "zip" p) [e, e2] [] pos) (iZip K ta) := by subst eK; exact pi_zip hg hm ha hs hpl
theorem pi_reversedK (eK : X.K = K) {e : Expr} {ta : TA} {p pos : Pos} (hg : Gl X "reversed") (hm : X.mg "reversed" = none) (ha : PA X [e] ta) (hs : starEach [e] X.env = [(false, eval e X.env)]) : PI X tg (.Call (.Name "reversed" p) [e] [] pos) (iRev K ta) := by subst eK; exact pi_reversed hg hm ha hs
theorem pg_tupK (eK : X.K = K) {es : List Expr} {k : Nat} {t : TGs} {n : Nat} {pos : Pos} (hc : X.calm = true) (h : PGs X es t)
    (hn : (assignEach es X.env).length = n) (hst : (assignEach es X.env).findIdx? (·.1) = none) : PG X (.Tuple es k pos) (gTup K n t) := by subst eK; exact pg_tup hc h hn hst
theorem pg_lstK (eK : X.K = K) {es : List Expr} {k : Nat} {t : TGs} {n : Nat} {pos : Pos} (hc : X.calm = true) (h : PGs X es t)
    (hn : (assignEach es X.env).length = n) (hst : (assignEach es X.env).findIdx? (·.1) = none) : PG X (.Tuple es k pos) (gLst K n t) := by subst eK; exact pg_lst hc h hn hst
theorem pe_fldK (eK : X.K = K) {e : Expr} {ta : TE} {f : Str} {pos : Pos} (he : PE X e ta) (hb : attributeBase e f X.env (eval e X.env) = eval e X.env) : PE X (.Attribute e f pos) (tFld K ta f) := by subst eK; exact pe_fld he hb
theorem pe_bm0K (eK : X.K = K) {o : Expr} {to : TE} {name : Str} {apos cpos : Pos} {T id : String} {r : V → List V → Hp → VK → Prop} (pa : PlainAttrs T) (slot : Slot T name id) (hty : typeOf (.builtin id) = pure (.type "method_descriptor")) (hm : MtR X id r) (ho : PE X o to)
    (hbase : attributeBase o name X.env (eval o X.env) = eval o X.env) (hline : (apos.endLine == cpos.line) = true) : PE X (.Call (.Attribute o name apos) [] [] cpos) (tBM0 K T r to) := by subst eK; exact pe_bm0 pa slot hty hm ho hbase hline
theorem pe_bmK (eK : X.K = K) {o e : Expr} {es : List Expr} {to : TE} {t : TA} {name : Str} {apos cpos : Pos} {T id : String} {r : V → List V → Hp → VK → Prop} (pa : PlainAttrs T) (slot : Slot T name id) (hty : typeOf (.builtin id) = pure (.type "method_descriptor")) (hm : MtR X id r) (ho : PE X o to) (ha : PA X (e :: es) t)
    (hbase : attributeBase o name X.env (eval o X.env) = eval o X.env)
    (hfew : ((backTo cpos (starEach (e :: es) X.env)).all (fun x => !x.1) && (backToKw cpos (keywordEach [] X.env)).all (fun x => x.1.isSome)
      && decide ((e :: es).length + ([] : List Keyword).length + (if ([] : List Keyword).isEmpty then 0 else 1) < 30)) = true)
    (hline : (apos.endLine == cpos.line) = true) (hs : starEach (e :: es) X.env = (false, eval e X.env) :: starEach es X.env) (hplain : (backTo cpos (starEach es X.env)).any (·.1) = false) :
    PE X (.Call (.Attribute o name apos) (e :: es) [] cpos) (tBM K T r to t) := by subst eK; exact pe_bm pa slot hty hm ho ha hbase hfew hline hs hplain
end
/-- two ways to one rest -/
theorem via {P R : Hp → Prop} {G : Prop} (main : (∀ H', P H' → R H') → G) (rest : ∀ H', P H' → R H') : G := main rest
/-! ### slices of lists -/
theorem cut_take (l : List V) (j : Nat) : cutV l none (some (j : Int)) = l.take j := by
  unfold cutV
  rw [HT.sIx_nat]
  show (l.drop 0).take (min j l.length - 0) = _
  rw [List.drop_zero, Nat.sub_zero]
  by_cases hj : j ≤ l.length
  · rw [Nat.min_eq_left hj]
  · rw [Nat.min_eq_right (by omega), List.take_of_length_le (Nat.le_refl _), List.take_of_length_le (by omega)]
theorem cut_nat (l : List V) (i j : Nat) : cutV l (some (i : Int)) (some (j : Int)) = (l.take j).drop i := by
  unfold cutV
  rw [HT.sIx_nat, HT.sIx_nat, List.drop_take]
  by_cases hi : i ≤ l.length
  · rw [Nat.min_eq_left hi]
    by_cases hj : j ≤ l.length
    · rw [Nat.min_eq_left hj]
    · rw [Nat.min_eq_right (by omega), List.take_of_length_le (by rw [List.length_drop]; omega), List.take_of_length_le (by rw [List.length_drop]; omega)]
  · rw [List.drop_eq_nil_of_le (by omega : l.length ≤ min i l.length), List.drop_eq_nil_of_le (by omega : l.length ≤ i)]
    simp
theorem cut_drop (l : List V) (i : Nat) : cutV l (some (i : Int)) none = l.drop i := by
  unfold cutV
  rw [HT.sIx_nat]
  show (l.drop (min i l.length)).take (l.length - min i l.length) = _
  by_cases hi : i ≤ l.length
  · rw [Nat.min_eq_left hi, List.take_of_length_le (by rw [List.length_drop]; omega)]
  · rw [List.drop_eq_nil_of_le (by omega : l.length ≤ min i l.length), List.drop_eq_nil_of_le (by omega : l.length ≤ i)]
    simp
end Tw

set_option maxHeartbeats 4000000
namespace Tw
open PySem PySem.Spec PyProof.Rows L2 LamX
/-! ### how many bits a number needs -/
def nd (n : Nat) : Nat := if h : n = 0 then 0 else nd (n / 2) + 1
theorem nd_zero : nd 0 = 0 := by rw [nd]; rfl
theorem nd_pos {n : Nat} (h : 0 < n) : nd n = nd (n / 2) + 1 := by
  rw [nd, dif_neg (Nat.ne_of_gt h)]
theorem nd_le : ∀ (w n : Nat), nd n ≤ w ↔ n < 2 ^ w
  | 0, n => by
    rcases Nat.eq_zero_or_pos n with h | h
    · subst h; rw [nd_zero]; decide
    · rw [nd_pos h]; simp; omega
  | w + 1, n => by
    rcases Nat.eq_zero_or_pos n with h | h
    · subst h; rw [nd_zero]; simp [Nat.pow_pos]
    · rw [nd_pos h, Nat.pow_succ]
      have := nd_le w (n / 2)
      omega
theorem nd_le_self (n : Nat) : nd n ≤ n := (nd_le n n).mpr Nat.lt_two_pow_self
/-! ### a number in so many bits -/
def bn (n : Nat) : Nat → List Bool
  | 0 => []
  | w + 1 => bn (n / 2) w ++ [n % 2 == 1]
theorem bn_len : ∀ (w n : Nat), (bn n w).length = w
  | 0, _ => rfl
  | w + 1, n => by rw [bn, List.length_append, bn_len w]; rfl
theorem bn_front : ∀ (w n : Nat), bn n (w + 1) = (n / 2 ^ w % 2 == 1) :: bn n w
  | 0, n => by simp [bn]
  | w + 1, n => by
    rw [bn, bn_front w (n / 2), bn, List.cons_append, Nat.div_div_eq_div_mul, Nat.pow_succ, Nat.mul_comm]
/-- the number that bits tell -/
def vb (l : List Bool) : Nat := l.foldl (fun a b => 2 * a + b.toNat) 0
theorem vb_snoc (l : List Bool) (b : Bool) : vb (l ++ [b]) = 2 * vb l + b.toNat := by
  unfold vb
  rw [List.foldl_append]
  rfl
theorem vb_bn : ∀ (w n : Nat), vb (bn n w) = n % 2 ^ w
  | 0, n => by simp [bn, vb, Nat.mod_one]
  | w + 1, n => by
    rw [bn, vb_snoc, vb_bn w (n / 2)]
    have e : (n % 2 == 1).toNat = n % 2 := by
      rcases Nat.mod_two_eq_zero_or_one n with h | h <;> rw [h] <;> rfl
    rw [e, Nat.pow_succ, Nat.mul_comm (2 ^ w) 2, Nat.mod_mul]
    omega
theorem bn_vb_lt {w n : Nat} (h : n < 2 ^ w) : vb (bn n w) = n := by rw [vb_bn, Nat.mod_eq_of_lt h]
theorem vb_from : ∀ (l : List Bool) (a : Nat), l.foldl (fun a b => 2 * a + b.toNat) a < (a + 1) * 2 ^ l.length
  | [], a => by simp
  | b :: r, a => by
    have h := vb_from r (2 * a + b.toNat)
    have hb : b.toNat ≤ 1 := by cases b <;> decide
    refine Nat.lt_of_lt_of_le h ?_
    rw [List.length_cons, Nat.pow_succ, Nat.mul_comm (2 ^ r.length) 2, ← Nat.mul_assoc]
    exact Nat.mul_le_mul_right _ (by omega)
theorem vb_lt (l : List Bool) : vb l < 2 ^ l.length := by
  have h := vb_from l 0
  rw [Nat.zero_add, Nat.one_mul] at h
  exact h
/-! ### the text of a bit, a sign's number -/
theorem str_bit (n : Nat) : (Str.ofString (toString ((n : Int) % 2)) : Str) = sb [n % 2 == 1] := by
  rcases Nat.mod_two_eq_zero_or_one n with h | h
  · have e : (n : Int) % 2 = 0 := by omega
    rw [e, h]
    decide +kernel
  · have e : (n : Int) % 2 = 1 := by omega
    rw [e, h]
    decide +kernel
theorem int_bit (b : Bool) : PySem.intText? (S [bc b]) = some (b.toNat : Int) := by
  cases b <;> decide +kernel
theorem toNat_lt (b : Bool) : (b.toNat : Int) ≤ 1 := by cases b <;> decide
/-! ### bits and other texts -/
def IsB (z : Str) : Prop := ∃ l, z = sb l
theorem isB_iff (l : List Nat) : IsB (S l) ↔ ∀ c ∈ l, c = 48 ∨ c = 49 := by
  constructor
  · rintro ⟨m, e⟩ c hc
    rw [S_inj e] at hc
    obtain ⟨b, _, rfl⟩ := List.mem_map.mp hc
    cases b
    · exact .inl rfl
    · exact .inr rfl
  · intro h
    refine ⟨l.map fun c => c == 49, ?_⟩
    unfold sb
    congr 1
    rw [List.map_map]
    conv => lhs; rw [← List.map_id l]
    refine List.map_congr_left fun c hc => ?_
    rcases h c hc with rfl | rfl <;> rfl
theorem signs01 : (Str.ofString "01" : Str).cps.toList = [48, 49] := by decide +kernel
theorem all_bits (l : List Nat) : ((List.range l.length).map fun i => decide (l.getD i 0 ∈ [48, 49])).all id = decide (∀ c ∈ l, c = 48 ∨ c = 49) := by
  rw [Bool.eq_iff_iff]
  simp only [List.all_eq_true, List.mem_map, List.mem_range, decide_eq_true_eq, id]
  constructor
  · intro h c hc
    obtain ⟨i, hi, rfl⟩ := List.mem_iff_getElem.mp hc
    have := h _ ⟨i, hi, rfl⟩
    rw [decide_eq_true_eq, List.getD_eq_getElem?_getD, List.getElem?_eq_getElem hi] at this
    simpa using this
  · rintro h b ⟨i, hi, rfl⟩
    rw [decide_eq_true_eq, List.getD_eq_getElem?_getD, List.getElem?_eq_getElem hi]
    simpa using h _ (List.getElem_mem hi)
/-! ### joined -/
theorem join_S : ∀ ls : List (List Nat), Txt.join (S []) (ls.map S) = S ls.flatten := by
  intro ls
  rw [show Txt.join (S []) (ls.map S) = Str.join (S []) (ls.map S) from StrLaws.glued_eq_join _ _]
  induction ls with
  | nil => rfl
  | cons a r ih =>
    cases r with
    | nil => show S a = _; rw [List.flatten_cons, List.flatten_nil, List.append_nil]
    | cons b r =>
      show S a ++ S [] ++ Str.join (S []) ((b :: r).map S) = _
      rw [ih, S_app, S_app, List.append_nil]
      rfl
theorem join_sb (ls : List (List Bool)) : Txt.join (sb []) (ls.map sb) = sb ls.flatten := by
  have e := join_S (ls.map (List.map bc))
  rw [List.map_map] at e
  rw [show (ls.map sb) = ls.map (S ∘ List.map bc) from rfl, show sb [] = S [] from rfl, e]
  unfold sb
  rw [List.map_flatten]
theorem sum_len (ls : List (List Bool)) : (ls.map sb).map Str.length = ls.map List.length := by
  rw [List.map_map]
  exact List.map_congr_left fun l _ => sb_len l
/-! ### packed -/
def pk (ns : List Nat) (w : Nat) : List Bool := (ns.map fun n => bn n w).flatten
theorem pk_len (ns : List Nat) (w : Nat) : (pk ns w).length = ns.length * w := by
  unfold pk
  induction ns with
  | nil => simp
  | cons n r ih => rw [List.map_cons, List.flatten_cons, List.length_append, ih, bn_len, List.length_cons, Nat.succ_mul]; omega
/-- the part of w bits at i -/
def part (l : List Bool) (w i : Nat) : List Bool := (l.take (i * w + w)).drop (i * w)
theorem part_pk : ∀ (ns : List Nat) (w i : Nat) (n : Nat), ns[i]? = some n → part (pk ns w) w i = bn n w
  | [], _, _, _, h => by simp at h
  | m :: r, w, 0, n, h => by
    have e : m = n := by simpa using h
    subst e
    unfold part pk
    rw [List.map_cons, List.flatten_cons, Nat.zero_mul, Nat.zero_add, List.drop_zero, List.take_append_of_le_length (by rw [bn_len]; exact Nat.le_refl _), List.take_of_length_le (by rw [bn_len]; exact Nat.le_refl _)]
  | m :: r, w, i + 1, n, h => by
    have ih := part_pk r w i n (by simpa using h)
    rw [← ih]
    unfold part pk
    rw [List.map_cons, List.flatten_cons]
    have e1 : (i + 1) * w + w = (bn m w).length + (i * w + w) := by rw [bn_len, Nat.succ_mul]; omega
    have e2 : (i + 1) * w = (bn m w).length + i * w := by rw [bn_len, Nat.succ_mul]; omega
    rw [e1, List.take_length_add_append, e2, List.drop_length_add_append]
end Tw

set_option maxHeartbeats 4000000
namespace Tw
open PySem PySem.Spec PyProof.Rows L2 LamX
/-! ### drawn numbers -/
abbrev pA : Int := 340282366920938463463374607431768211507
abbrev pB : Int := 340282366920938463463374607431768211297
abbrev pC : Int := 18446744073709551557
def dr1 (c k : Int) : Int := (c * 6364136223846793005 + (k + 1) * 1442695040888963407) % pA
def dr2 (c k : Int) : Int := dr1 c k * dr1 c k % pB
def dr (c k : Int) : Int := (dr2 c k % pC + 1) * (dr2 c k / pC + 1) * dr2 c k % pA
theorem dr1_rng (c k : Int) : 0 ≤ dr1 c k ∧ dr1 c k < pA := ⟨Int.emod_nonneg _ (by decide), Int.emod_lt_of_pos _ (by decide)⟩
theorem dr2_rng (c k : Int) : 0 ≤ dr2 c k ∧ dr2 c k < pB := ⟨Int.emod_nonneg _ (by decide), Int.emod_lt_of_pos _ (by decide)⟩
theorem dr_rng (c k : Int) : 0 ≤ dr c k ∧ dr c k < pA := ⟨Int.emod_nonneg _ (by decide), Int.emod_lt_of_pos _ (by decide)⟩
theorem dr1_abs (c k : Int) : (dr1 c k).natAbs < 2 ^ 129 := by have := dr1_rng c k; simp only [pA] at this; omega
theorem dr2_abs (c k : Int) : (dr2 c k).natAbs < 2 ^ 129 := by have := dr2_rng c k; simp only [pB] at this; omega
theorem dr2_a (c k : Int) : (dr2 c k % pC + 1).natAbs < 2 ^ 65 := by
  have h := Int.emod_nonneg (dr2 c k) (show pC ≠ 0 by decide)
  have h2 := Int.emod_lt_of_pos (dr2 c k) (show 0 < pC by decide)
  simp only [pC] at h h2 ⊢
  omega
theorem dr2_b (c k : Int) : (dr2 c k / pC + 1).natAbs < 2 ^ 129 := by
  have := dr2_rng c k
  have h : 0 ≤ dr2 c k / pC := Int.ediv_nonneg this.1 (by decide)
  have h2 : dr2 c k / pC ≤ dr2 c k := Int.ediv_le_self _ this.1
  simp only [pB] at this
  omega
/-- the cell that a turn looks at -/
def cellV (ns : List Int) (k : Nat) : Int := if ns = [] then (k : Int) * 7919 else ns.getD (k % ns.length) 0 + ((k / ns.length : Nat) : Int) * 104729
def mosts : List Int := [0, 1, 2, 7, 8, 255, 256, 10 ^ 9, 2 ^ 40 - 1]
theorem mosts_le (j : Nat) : 0 ≤ mosts.getD j 0 ∧ mosts.getD j 0 < 1099511627776 := by
  by_cases h : j < 9
  · have : ∀ i, i < 9 → 0 ≤ mosts.getD i 0 ∧ mosts.getD i 0 < 1099511627776 := by decide +kernel
    exact this j h
  · rw [List.getD_eq_getElem?_getD, List.getElem?_eq_none (show mosts.length ≤ j from Nat.le_of_not_lt h)]
    decide
end Tw

set_option maxHeartbeats 4000000
namespace Tw
open PySem PySem.Spec PyProof.Rows L2 LamX
/-! ### a text so many times -/
def rRepS : R2 := fun x y H Q => ∃ z k, x = .str z ∧ y = .int k ∧ MulOk z k ∧ Q (.str (Txt.mul z k)) H
theorem op_repS {X : Cx} : OpR X (binaryOp .Mult) rRepS := by
  intro pins s σ H x y v u Q I rx ry h
  obtain ⟨z, k, rfl, rfl, hok, q⟩ := h
  obtain ⟨t, rfl⟩ := rx
  obtain ⟨t', rfl⟩ := ry
  exact SB.mul hok fun t' tk => ⟨.str (Txt.mul z k), H, I.tok _, ⟨_, rfl⟩, q⟩
theorem fold_reps : ∀ (n : Nat) (c : Nat) (a : List Nat), (List.replicate n (#[c] : Array Nat)).foldl (· ++ ·) a.toArray = (a ++ List.replicate n c).toArray
  | 0, c, a => by simp
  | n + 1, c, a => by
    rw [List.replicate_succ, List.foldl_cons]
    have e : a.toArray ++ (#[c] : Array Nat) = (a ++ [c]).toArray := by simp
    rw [e, fold_reps n c, List.append_assoc]
    rfl
theorem mul_S (c : Nat) (k : Int) : Txt.mul (S [c]) k = S (List.replicate k.toNat c) := by
  unfold Txt.mul
  by_cases h : k < 1
  · rw [if_pos h, show k.toNat = 0 by omega]
    rfl
  · rw [if_neg h]
    by_cases h1 : k = 1
    · subst h1
      rfl
    · have hf : (k == 1 || (S [c]).length == 0) = false := by
        rw [Bool.or_eq_false_iff]
        exact ⟨by simpa using h1, rfl⟩
      rw [hf]
      show (⟨_⟩ : Str) = S _
      have := fold_reps k.toNat c []
      unfold S
      rw [List.nil_append] at this
      rw [← this]
theorem mulOk_S {c : Nat} {k : Int} (h1 : -1000000 ≤ k) (h2 : k ≤ 1000000) : MulOk (S [c]) k := by
  refine ⟨?_, fun h3 _ => ?_, fun h3 _ => ?_⟩
  · rw [Bool.or_eq_false_iff]
    exact ⟨decide_eq_false (by omega), decide_eq_false (by omega)⟩
  · have h5 : (1 : Int) ≤ (2 ^ 63 - 1) / k := by
      refine (Int.le_ediv_iff_mul_le (by omega)).mpr ?_
      omega
    show ¬ ((1 : Int) > _)
    omega
  · show decide (1 * k.toNat > sizeLine) = false
    refine decide_eq_false ?_
    have : sizeLine = 16777216 := by decide
    omega
end Tw

set_option maxHeartbeats 4000000
namespace Tw
open PySem PySem.Spec PyProof.Rows L2 LamX
theorem cutS_take (l : List Nat) (j : Nat) : cutS (S l) none (some (j : Int)) = S (l.take j) := by
  unfold cutS
  rw [HT.sIx_nat, S_len]
  show (⟨_⟩ : Str) = ⟨_⟩
  congr 2
  show (l.drop 0).take (min j l.length - 0) = _
  rw [List.drop_zero, Nat.sub_zero]
  by_cases hj : j ≤ l.length
  · rw [Nat.min_eq_left hj]
  · rw [Nat.min_eq_right (by omega), List.take_of_length_le (Nat.le_refl _), List.take_of_length_le (by omega)]
theorem cut_last (d : List Bool) : cutS (sb d) none (some (((sb d).length : Int) - 1)) = sb (d.take (d.length - 1)) := by
  cases d with
  | nil => decide +kernel
  | cons b r =>
    rw [sb_len, show (((b :: r).length : Nat) : Int) - 1 = (((b :: r).length - 1 : Nat) : Int) by simp]
    unfold sb
    rw [cutS_take, List.map_take]
/-! ### numbers in steps -/
def st1 (n : Nat) : List Bool := List.replicate (nd (n + 1) - 1) false ++ bn (n + 1) (nd (n + 1))
def stp (ns : List Nat) : List Bool := (ns.map st1).flatten
theorem nd_lo {n : Nat} (h : 0 < n) : 0 < nd n ∧ 2 ^ (nd n - 1) ≤ n ∧ n < 2 ^ nd n := by
  have h1 : 0 < nd n := by rw [nd_pos h]; omega
  refine ⟨h1, ?_, (nd_le _ _).mp (Nat.le_refl _)⟩
  apply Nat.le_of_not_lt
  intro h2
  have := (nd_le _ _).mpr h2
  omega
theorem bn_zero : ∀ w, bn 0 w = List.replicate w false
  | 0 => rfl
  | w + 1 => by
    rw [bn, Nat.zero_div, bn_zero w, List.replicate_succ']
    rfl
/-- noughts ahead -/
def zs (l : List Bool) : Nat := (l.takeWhile (!·)).length
theorem zs_le (l : List Bool) : zs l ≤ l.length := by
  unfold zs
  exact (List.takeWhile_prefix _).length_le
theorem zs_lt : ∀ (l : List Bool) (i : Nat), i < zs l → l[i]? = some false
  | [], i, h => by simp [zs] at h
  | true :: r, i, h => by simp [zs] at h
  | false :: r, 0, h => rfl
  | false :: r, i + 1, h => by
    have : zs (false :: r) = zs r + 1 := by simp [zs]
    rw [List.getElem?_cons_succ]
    exact zs_lt r i (by omega)
theorem zs_at : ∀ (l : List Bool), l[zs l]? ≠ some false
  | [] => by simp [zs]
  | true :: r => by simp [zs]
  | false :: r => by
    have : zs (false :: r) = zs r + 1 := by simp [zs]
    rw [this, List.getElem?_cons_succ]
    exact zs_at r
theorem zs_eq {l : List Bool} {z : Nat} (h1 : ∀ i, i < z → l[i]? = some false) (h2 : l[z]? ≠ some false) : zs l = z := by
  rcases Nat.lt_trichotomy (zs l) z with h | h | h
  · exact absurd (h1 _ h) (zs_at l)
  · exact h
  · exact absurd (zs_lt l _ h) h2
theorem sb_code (l : List Bool) (v : Nat) (b : Bool) (h : l[v]? = some b) : (sb l).cps.getD v 0 = bc b := by
  have hv : v < l.length := (List.getElem?_eq_some_iff.mp h).1
  have e : l[v] = b := (List.getElem?_eq_some_iff.mp h).2
  show (l.map bc).toArray.getD v 0 = bc b
  simp [Array.getD, hv, e]
theorem find_one (l : List Bool) (a : Nat) (h : a < l.length) : (Txt.find3 (sb l) "1" (a : Int) = -1 ∧ zs (l.drop a) = (l.drop a).length) ∨ (Txt.find3 (sb l) "1" (a : Int) = ((a + zs (l.drop a) : Nat) : Int) ∧ zs (l.drop a) < (l.drop a).length) := by
  have e1 : (Str.ofString "1" : Str) = ⟨#[49]⟩ := by decide +kernel
  have ef : fromIndex (sb l).length (a : Int) = a := by
    unfold fromIndex
    rw [if_neg (by omega)]
    omega
  rw [e1]
  have bit : ∀ v, v < l.length → l[v]? = some true ∨ l[v]? = some false := fun v hv => by
    rw [List.getElem?_eq_getElem hv]
    cases l[v]
    · exact .inr rfl
    · exact .inl rfl
  rcases StrLaws.find3_spec (sb l) 49 (a : Int) with ⟨h0, hn⟩ | ⟨k, h0, hlo, hk, hc, hn⟩
  · refine .inl ⟨h0, zs_eq (fun i hi => ?_) (by rw [List.getElem?_eq_none (Nat.le_refl _)]; exact fun h => nomatch h)⟩
    rw [List.length_drop] at hi
    rw [List.getElem?_drop]
    rcases bit (a + i) (by omega) with hb | hb
    · exact absurd (sb_code l _ _ hb) (hn (a + i) (by rw [ef]; omega) (by rw [sb_len]; omega))
    · exact hb
  · rw [ef] at hlo hn
    rw [sb_len] at hk
    have hz : zs (l.drop a) = k - a := zs_eq (fun i hi => by
      rw [List.getElem?_drop]
      rcases bit (a + i) (by omega) with hb | hb
      · exact absurd (sb_code l _ _ hb) (hn (a + i) (by omega) (by omega))
      · exact hb) (by
      rw [List.getElem?_drop, show a + (k - a) = k by omega]
      intro hb
      rw [sb_code l _ _ hb] at hc
      cases hc)
    refine .inr ⟨?_, ?_⟩
    · rw [h0, hz]
      congr 1
      omega
    · rw [hz, List.length_drop]
      omega
theorem bit_at {α : Type} (l : List α) (i : Nat) : (l.take (i + 1)).drop i = (l[i]?).toList := by
  rw [List.take_add_one, List.drop_append]
  by_cases h : i ≤ l.length
  · rw [List.length_take, Nat.min_eq_left h, Nat.sub_self, List.drop_zero, List.drop_of_length_le (by rw [List.length_take]; omega), List.nil_append]
  · rw [List.drop_of_length_le (by rw [List.length_take]; omega), List.getElem?_eq_none (by omega)]
    simp
/-- what the bits tell, one number behind the other -/
def back (l : List Bool) : Option (List Int) :=
  if h : l = [] then some []
  else if h2 : l.length < 2 * zs l + 1 then none
  else (back (l.drop (2 * zs l + 1))).map ((((vb ((l.drop (zs l)).take (zs l + 1)) : Nat) : Int) - 1) :: ·)
termination_by l.length
decreasing_by
  rw [List.length_drop]
  have := List.length_pos_iff.mpr h
  omega
theorem back_nil : back [] = some [] := by rw [back]; rfl
theorem back_short {l : List Bool} (h : l ≠ []) (h2 : l.length < 2 * zs l + 1) : back l = none := by rw [back, dif_neg h, dif_pos h2]
theorem back_more {l : List Bool} (h : l ≠ []) (h2 : ¬ l.length < 2 * zs l + 1) : back l = (back (l.drop (2 * zs l + 1))).map ((((vb ((l.drop (zs l)).take (zs l + 1)) : Nat) : Int) - 1) :: ·) := by
  rw [back, dif_neg h, dif_neg h2]
theorem zs_cons (r : List Bool) (k : Nat) : zs (List.replicate k false ++ true :: r) = k := by
  unfold zs
  rw [List.takeWhile_append_of_pos (by intro x hx; rw [List.eq_of_mem_replicate hx]; rfl)]
  simp
theorem st1_eq (n : Nat) : ∃ r, st1 n = List.replicate (nd (n + 1) - 1) false ++ true :: r ∧ bn (n + 1) (nd (n + 1)) = true :: r := by
  obtain ⟨h1, h2, h3⟩ := nd_lo (show 0 < n + 1 by omega)
  obtain ⟨w, hw⟩ : ∃ w, nd (n + 1) = w + 1 := ⟨nd (n + 1) - 1, by omega⟩
  unfold st1
  rw [hw] at h2 h3 ⊢
  rw [bn_front]
  have e : (n + 1) / 2 ^ w % 2 = 1 := by
    rw [Nat.add_sub_cancel] at h2
    rw [Nat.pow_succ] at h3
    have a : 1 ≤ (n + 1) / 2 ^ w := (Nat.le_div_iff_mul_le (Nat.pow_pos (by decide))).mpr (by omega)
    have b : (n + 1) / 2 ^ w < 2 := (Nat.div_lt_iff_lt_mul (Nat.pow_pos (by decide))).mpr (by omega)
    omega
  rw [e]
  exact ⟨_, rfl, rfl⟩
theorem st1_len {n : Nat} (h : n < 1099511627776) : (st1 n).length ≤ 81 := by
  have h4 : nd (n + 1) ≤ 41 := (nd_le _ _).mpr (by omega)
  unfold st1
  rw [List.length_append, List.length_replicate, bn_len]
  omega
theorem stp_len : ∀ {ns : List Nat}, (∀ n ∈ ns, n < 1099511627776) → (stp ns).length ≤ ns.length * 81
  | [], _ => Nat.le_refl _
  | n :: ns, h => by
    have h1 := stp_len (ns := ns) fun m hm => h m (List.mem_cons_of_mem _ hm)
    have h2 := st1_len (h n (List.mem_cons_self ..))
    have e : (stp (n :: ns)).length = (st1 n).length + (stp ns).length := by unfold stp; rw [List.map_cons, List.flatten_cons, List.length_append]
    rw [e, List.length_cons]
    omega
theorem stp_snoc (ns : List Nat) (n : Nat) : stp (ns ++ [n]) = stp ns ++ st1 n := by
  unfold stp
  rw [List.map_append, List.flatten_append]
  simp
theorem back_stp : ∀ ns : List Nat, back (stp ns) = some (ns.map Int.ofNat)
  | [] => back_nil
  | n :: ns => by
    obtain ⟨r, e1, e2⟩ := st1_eq n
    have e : stp (n :: ns) = List.replicate (nd (n + 1) - 1) false ++ true :: (r ++ stp ns) := by
      unfold stp
      rw [List.map_cons, List.flatten_cons, e1, List.append_assoc, List.cons_append]
    have hz : zs (stp (n :: ns)) = nd (n + 1) - 1 := by rw [e, zs_cons]
    have hl : (bn (n + 1) (nd (n + 1))).length = nd (n + 1) := bn_len _ _
    have h0 := (nd_lo (show 0 < n + 1 by omega)).1
    have hd : (stp (n :: ns)).drop (nd (n + 1) - 1) = bn (n + 1) (nd (n + 1)) ++ stp ns := by
      rw [e, List.drop_append_of_le_length (by rw [List.length_replicate]; exact Nat.le_refl _), List.drop_of_length_le (by rw [List.length_replicate]; exact Nat.le_refl _), List.nil_append, e2, List.cons_append]
    have ht : (stp (n :: ns)).length = 2 * (nd (n + 1) - 1) + 1 + (stp ns).length := by
      have : (stp (n :: ns)).length = (st1 n).length + (stp ns).length := by unfold stp; rw [List.map_cons, List.flatten_cons, List.length_append]
      rw [this]
      unfold st1
      rw [List.length_append, List.length_replicate, hl]
      omega
    rw [back_more (fun h => by rw [h] at ht; simp only [List.length_nil] at ht; omega) (by rw [hz]; omega), hz, hd]
    have hw : nd (n + 1) - 1 + 1 = nd (n + 1) := by omega
    have hdd : (stp (n :: ns)).drop (2 * (nd (n + 1) - 1) + 1) = stp ns := by
      rw [show 2 * (nd (n + 1) - 1) + 1 = (nd (n + 1) - 1) + nd (n + 1) by omega, ← List.drop_drop, hd, List.drop_append_of_le_length (by rw [hl]; exact Nat.le_refl _), List.drop_of_length_le (by rw [hl]; exact Nat.le_refl _), List.nil_append]
    rw [hdd, back_stp ns, hw, List.take_append_of_le_length (by rw [hl]; exact Nat.le_refl _), List.take_of_length_le (by rw [hl]; exact Nat.le_refl _), bn_vb_lt ((nd_le _ _).mp (Nat.le_refl _))]
    show some ((((n + 1 : Nat) : Int) - 1) :: ns.map Int.ofNat) = some (Int.ofNat n :: ns.map Int.ofNat)
    congr 2
    show ((n + 1 : Nat) : Int) - 1 = (n : Int)
    omega
end Tw

set_option maxHeartbeats 0
namespace Tw
open PySem PySem.Spec PyProof.Rows L2 LamX
def top (i : Nat) : Stmt := PySem.Challenge.pw_tersewood_k11_numbers_in_steps.main.body.getD i (.Pass ⟨0, 0, 0, 0⟩)
def dd (n : Str) (i : Nat) : He.DefD := ⟨(n, none), n, n, defArgs (top i), defBody (top i), defScope (top i), [], []⟩
def fnL : List He.DefD := [dd "needs" 10, dd "in_bits" 11, dd "out_of" 12, dd "need_bits" 13, dd "stepped" 14, dd "stepped_back" 15, dd "_law_cell" 17, dd "_law_drawn" 18, dd "_law_word" 19, dd "_law_told" 20, dd "_law_needs" 21, dd "_law_bits" 22, dd "_law_read" 23, dd "law" 24]
def faL : List He.Fa := [.glo "needs", .glo "in_bits", .glo "out_of", .glo "need_bits", .glo "stepped", .glo "stepped_back", .glo "_law_cell", .glo "_law_drawn", .glo "_law_word", .glo "_law_told", .glo "_law_needs", .glo "_law_bits", .glo "_law_read", .glo "law", .free "range", .free "str", .free "int", .free "all", .free "len", .free "isinstance", .free "sum", .free "ValueError", .free "max", .free "list", .free "min", .glo "TerseError", .exc "TerseError", .exm "TerseError" "TerseError" true, .glo "BadNumber", .exc "BadNumber", .exm "BadNumber" "TerseError" true, .glo "BadBits", .exc "BadBits", .exm "BadBits" "TerseError" true, .glo "BadPlace", .exc "BadPlace", .exm "BadPlace" "TerseError" true, .glo "BadText", .exc "BadText", .exm "BadText" "TerseError" true, .glo "BadCode", .exc "BadCode", .exm "BadCode" "TerseError" true, .glo "BadTree", .exc "BadTree", .exm "BadTree" "TerseError" true, .glo "TooMany", .exc "TooMany", .exm "TooMany" "TerseError" true]
abbrev R : PySem.W.OpenRow := PySem.W.OpenLaw.row PySem.Challenge.rw_tersewood_k11_numbers_in_steps
def tf : List He.Defn := [("law", none)]
def tK (K : PySem.W.Frag) : List (Addr × Str) := [((He.cT K ("law", none)).2, (envOfC "law" (defScope (top 24)) 0 0 .none).qual ++ "<lambda>")]
def exL (K : PySem.W.Frag) : Bool := exB K
abbrev hk : PySem.W.Hook := He.hookX 5 faL fnL [] tf exL
def ob (s : PySem.W.SharedT) : He.AlX := He.obsX 5 faL fnL [] tf exL (HandSHeadRun.getT s)
theorem ob_eq (s : PySem.W.SharedT) : ob s = hk.obs s.abs := He.obsX_eq (HandSHeadRun.getT_eq s)
def loose0 : List Str := ["__name__", "TerseError", "BadNumber", "BadBits", "BadPlace", "BadText", "BadCode", "BadTree", "TooMany", "needs", "in_bits", "out_of", "need_bits", "stepped", "stepped_back", "_law_cell", "_law_drawn", "_law_word", "_law_told", "_law_needs"]
def loose1 : List Str := ["_law_bits", "_law_read"]
def loose : List Str := loose0 ++ loose1
theorem run (w : World) : HandSHeadRun.RunEq R (PySem.W.view R.prog [24]) hk ob 30000 loose w := by
  intro os
  kernel_rfl
structure Tx (K : PySem.W.Frag) (mg : Str → Option Value) : Prop where
  hx : ∃ h, K.In h ∧ h.Ns mainGlobals mg ∧ He.SaysD faL fnL K
  more : exL K = true
section
variable {K : PySem.W.Frag} {mg : Str → Option Value}
theorem Tx.fct (T : Tx K mg) (i : Nat) {f : He.Fa} (h : faL[i]? = some f) : f.ok K = true := T.hx.choose_spec.2.2.fact i h
theorem Tx.glo (T : Tx K mg) (i : Nat) {x : Str} (h : faL[i]? = some (.glo x)) : mg x = some (.ref (He.ga K x)) := He.glo_ok T.hx.choose_spec.1 T.hx.choose_spec.2.1 (T.fct i h)
theorem Tx.free (T : Tx K mg) (i : Nat) {x : Str} (h : faL[i]? = some (.free x)) : mg x = none := He.free_ok T.hx.choose_spec.1 T.hx.choose_spec.2.1 (T.fct i h)
theorem Tx.int (T : Tx K mg) (i : Nat) {x : Str} {z : Int} (h : faL[i]? = some (.int x z)) : ∃ t, mg x = some (.int z t) := He.int_ok T.hx.choose_spec.1 T.hx.choose_spec.2.1 (T.fct i h)
theorem Tx.str (T : Tx K mg) (i : Nat) {x z : Str} (h : faL[i]? = some (.str x z)) : ∃ t, mg x = some (.str z t) := He.str_ok T.hx.choose_spec.1 T.hx.choose_spec.2.1 (T.fct i h)
theorem Tx.fd (T : Tx K mg) (i : Nat) {d : He.DefD} (h : fnL[i]? = some d) (h1 : d.dfl = []) (h2 : d.kwd = []) : FunD K d.name d.qual d.params d.body d.scope [] [] (He.fAd K d.at_) (fdOf K d.at_) := by
  obtain ⟨fd, F⟩ := T.hx.choose_spec.2.2.def_ i h
  have e1 : d.dvs K = [] := by unfold He.DefD.dvs; rw [h1]; rfl
  have e2 : d.kws K = [] := by unfold He.DefD.kws; rw [h2]; rfl
  rw [e1, e2] at F
  exact fdOf_of F
abbrev s_needs : Stmt := top 10
theorem Tx.F_needs (T : Tx K mg) : FunD K "needs" "needs" (defArgs s_needs) (defBody s_needs) (defScope s_needs) [] [] (He.fAd K ("needs", none)) (fdOf K ("needs", none)) := T.fd 0 rfl rfl rfl
theorem Tx.B_needs (T : Tx K mg) : Binds K (fdOf K ("needs", none)) ["number"] [] := T.F_needs.bindsN fun _ _ _ _ _ _ us hl => match us, hl with | [_], _ => rfl
abbrev N_needs : List Str := ["number", "found"]
theorem sc_needs : FnScope N_needs ["number"] (defScope s_needs) := ⟨rfl, rfl, rfl, by decide +kernel, rfl, by decide +kernel, by decide +kernel⟩
abbrev s_in_bits : Stmt := top 11
theorem Tx.F_in_bits (T : Tx K mg) : FunD K "in_bits" "in_bits" (defArgs s_in_bits) (defBody s_in_bits) (defScope s_in_bits) [] [] (He.fAd K ("in_bits", none)) (fdOf K ("in_bits", none)) := T.fd 1 rfl rfl rfl
theorem Tx.B_in_bits (T : Tx K mg) : Binds K (fdOf K ("in_bits", none)) ["number", "wide"] [] := T.F_in_bits.bindsN fun _ _ _ _ _ _ us hl => match us, hl with | [_, _], _ => rfl
abbrev N_in_bits : List Str := ["number", "wide", "found", "turn"]
theorem sc_in_bits : FnScope N_in_bits ["number", "wide"] (defScope s_in_bits) := ⟨rfl, rfl, rfl, by decide +kernel, rfl, by decide +kernel, by decide +kernel⟩
abbrev s_out_of : Stmt := top 12
theorem Tx.F_out_of (T : Tx K mg) : FunD K "out_of" "out_of" (defArgs s_out_of) (defBody s_out_of) (defScope s_out_of) [] [] (He.fAd K ("out_of", none)) (fdOf K ("out_of", none)) := T.fd 2 rfl rfl rfl
theorem Tx.B_out_of (T : Tx K mg) : Binds K (fdOf K ("out_of", none)) ["bits"] [] := T.F_out_of.bindsN fun _ _ _ _ _ _ us hl => match us, hl with | [_], _ => rfl
abbrev N_out_of : List Str := ["bits", "found", "sign"]
theorem sc_out_of : FnScope N_out_of ["bits"] (defScope s_out_of) := ⟨rfl, rfl, rfl, by decide +kernel, rfl, by decide +kernel, by decide +kernel⟩
abbrev s_need_bits : Stmt := top 13
theorem Tx.F_need_bits (T : Tx K mg) : FunD K "need_bits" "need_bits" (defArgs s_need_bits) (defBody s_need_bits) (defScope s_need_bits) [] [] (He.fAd K ("need_bits", none)) (fdOf K ("need_bits", none)) := T.fd 3 rfl rfl rfl
theorem Tx.B_need_bits (T : Tx K mg) : Binds K (fdOf K ("need_bits", none)) ["bits"] [] := T.F_need_bits.bindsN fun _ _ _ _ _ _ us hl => match us, hl with | [_], _ => rfl
abbrev N_need_bits : List Str := ["bits", "sign"]
theorem sc_need_bits : FnScope N_need_bits ["bits"] (defScope s_need_bits) := ⟨rfl, rfl, rfl, by decide +kernel, rfl, by decide +kernel, by decide +kernel⟩
abbrev s_stepped : Stmt := top 14
theorem Tx.F_stepped (T : Tx K mg) : FunD K "stepped" "stepped" (defArgs s_stepped) (defBody s_stepped) (defScope s_stepped) [] [] (He.fAd K ("stepped", none)) (fdOf K ("stepped", none)) := T.fd 4 rfl rfl rfl
theorem Tx.B_stepped (T : Tx K mg) : Binds K (fdOf K ("stepped", none)) ["numbers"] [] := T.F_stepped.bindsN fun _ _ _ _ _ _ us hl => match us, hl with | [_], _ => rfl
abbrev N_stepped : List Str := ["numbers", "found", "number", "wide"]
theorem sc_stepped : FnScope N_stepped ["numbers"] (defScope s_stepped) := ⟨rfl, rfl, rfl, by decide +kernel, rfl, by decide +kernel, by decide +kernel⟩
abbrev s_stepped_back : Stmt := top 15
theorem Tx.F_stepped_back (T : Tx K mg) : FunD K "stepped_back" "stepped_back" (defArgs s_stepped_back) (defBody s_stepped_back) (defScope s_stepped_back) [] [] (He.fAd K ("stepped_back", none)) (fdOf K ("stepped_back", none)) := T.fd 5 rfl rfl rfl
theorem Tx.B_stepped_back (T : Tx K mg) : Binds K (fdOf K ("stepped_back", none)) ["bits"] [] := T.F_stepped_back.bindsN fun _ _ _ _ _ _ us hl => match us, hl with | [_], _ => rfl
abbrev N_stepped_back : List Str := ["bits", "found", "at", "wide"]
theorem sc_stepped_back : FnScope N_stepped_back ["bits"] (defScope s_stepped_back) := ⟨rfl, rfl, rfl, by decide +kernel, rfl, by decide +kernel, by decide +kernel⟩
abbrev s__law_cell : Stmt := top 17
theorem Tx.F__law_cell (T : Tx K mg) : FunD K "_law_cell" "_law_cell" (defArgs s__law_cell) (defBody s__law_cell) (defScope s__law_cell) [] [] (He.fAd K ("_law_cell", none)) (fdOf K ("_law_cell", none)) := T.fd 6 rfl rfl rfl
theorem Tx.B__law_cell (T : Tx K mg) : Binds K (fdOf K ("_law_cell", none)) ["_law_script", "_law_k"] [] := T.F__law_cell.bindsN fun _ _ _ _ _ _ us hl => match us, hl with | [_, _], _ => rfl
abbrev N__law_cell : List Str := ["_law_script", "_law_k"]
theorem sc__law_cell : FnScope N__law_cell ["_law_script", "_law_k"] (defScope s__law_cell) := ⟨rfl, rfl, rfl, by decide +kernel, rfl, by decide +kernel, by decide +kernel⟩
abbrev s__law_drawn : Stmt := top 18
theorem Tx.F__law_drawn (T : Tx K mg) : FunD K "_law_drawn" "_law_drawn" (defArgs s__law_drawn) (defBody s__law_drawn) (defScope s__law_drawn) [] [] (He.fAd K ("_law_drawn", none)) (fdOf K ("_law_drawn", none)) := T.fd 7 rfl rfl rfl
theorem Tx.B__law_drawn (T : Tx K mg) : Binds K (fdOf K ("_law_drawn", none)) ["_law_cell_here", "_law_k"] [] := T.F__law_drawn.bindsN fun _ _ _ _ _ _ us hl => match us, hl with | [_, _], _ => rfl
abbrev N__law_drawn : List Str := ["_law_cell_here", "_law_k", "_law_more"]
theorem sc__law_drawn : FnScope N__law_drawn ["_law_cell_here", "_law_k"] (defScope s__law_drawn) := ⟨rfl, rfl, rfl, by decide +kernel, rfl, by decide +kernel, by decide +kernel⟩
abbrev s__law_word : Stmt := top 19
theorem Tx.F__law_word (T : Tx K mg) : FunD K "_law_word" "_law_word" (defArgs s__law_word) (defBody s__law_word) (defScope s__law_word) [] [] (He.fAd K ("_law_word", none)) (fdOf K ("_law_word", none)) := T.fd 8 rfl rfl rfl
theorem Tx.B__law_word (T : Tx K mg) : Binds K (fdOf K ("_law_word", none)) ["_law_e"] [] := T.F__law_word.bindsN fun _ _ _ _ _ _ us hl => match us, hl with | [_], _ => rfl
abbrev N__law_word : List Str := ["_law_e", "_law_flags", "_law_flag"]
theorem sc__law_word : FnScope N__law_word ["_law_e"] (defScope s__law_word) := ⟨rfl, rfl, rfl, by decide +kernel, rfl, by decide +kernel, by decide +kernel⟩
abbrev s__law_told : Stmt := top 20
theorem Tx.F__law_told (T : Tx K mg) : FunD K "_law_told" "_law_told" (defArgs s__law_told) (defBody s__law_told) (defScope s__law_told) [] [] (He.fAd K ("_law_told", none)) (fdOf K ("_law_told", none)) := T.fd 9 rfl rfl rfl
theorem Tx.B__law_told (T : Tx K mg) : Binds K (fdOf K ("_law_told", none)) ["_law_deed"] [] := T.F__law_told.bindsN fun _ _ _ _ _ _ us hl => match us, hl with | [_], _ => rfl
abbrev N__law_told : List Str := ["_law_deed", "_law_e"]
theorem sc__law_told : FnScope N__law_told ["_law_deed"] (defScope s__law_told) := ⟨rfl, rfl, rfl, by decide +kernel, rfl, by decide +kernel, by decide +kernel⟩
abbrev s__law_needs : Stmt := top 21
theorem Tx.F__law_needs (T : Tx K mg) : FunD K "_law_needs" "_law_needs" (defArgs s__law_needs) (defBody s__law_needs) (defScope s__law_needs) [] [] (He.fAd K ("_law_needs", none)) (fdOf K ("_law_needs", none)) := T.fd 10 rfl rfl rfl
theorem Tx.B__law_needs (T : Tx K mg) : Binds K (fdOf K ("_law_needs", none)) ["_law_number"] [] := T.F__law_needs.bindsN fun _ _ _ _ _ _ us hl => match us, hl with | [_], _ => rfl
abbrev N__law_needs : List Str := ["_law_number", "_law_found"]
theorem sc__law_needs : FnScope N__law_needs ["_law_number"] (defScope s__law_needs) := ⟨rfl, rfl, rfl, by decide +kernel, rfl, by decide +kernel, by decide +kernel⟩
abbrev s__law_bits : Stmt := top 22
theorem Tx.F__law_bits (T : Tx K mg) : FunD K "_law_bits" "_law_bits" (defArgs s__law_bits) (defBody s__law_bits) (defScope s__law_bits) [] [] (He.fAd K ("_law_bits", none)) (fdOf K ("_law_bits", none)) := T.fd 11 rfl rfl rfl
theorem Tx.B__law_bits (T : Tx K mg) : Binds K (fdOf K ("_law_bits", none)) ["_law_number", "_law_wide"] [] := T.F__law_bits.bindsN fun _ _ _ _ _ _ us hl => match us, hl with | [_, _], _ => rfl
abbrev N__law_bits : List Str := ["_law_number", "_law_wide", "_law_found", "_law_turn"]
theorem sc__law_bits : FnScope N__law_bits ["_law_number", "_law_wide"] (defScope s__law_bits) := ⟨rfl, rfl, rfl, by decide +kernel, rfl, by decide +kernel, by decide +kernel⟩
abbrev s__law_read : Stmt := top 23
theorem Tx.F__law_read (T : Tx K mg) : FunD K "_law_read" "_law_read" (defArgs s__law_read) (defBody s__law_read) (defScope s__law_read) [] [] (He.fAd K ("_law_read", none)) (fdOf K ("_law_read", none)) := T.fd 12 rfl rfl rfl
theorem Tx.B__law_read (T : Tx K mg) : Binds K (fdOf K ("_law_read", none)) ["_law_bits_here"] [] := T.F__law_read.bindsN fun _ _ _ _ _ _ us hl => match us, hl with | [_], _ => rfl
abbrev N__law_read : List Str := ["_law_bits_here", "_law_found", "_law_at", "_law_one", "_law_number", "_law_sign"]
theorem sc__law_read : FnScope N__law_read ["_law_bits_here"] (defScope s__law_read) := ⟨rfl, rfl, rfl, by decide +kernel, rfl, by decide +kernel, by decide +kernel⟩
abbrev s_law : Stmt := top 24
theorem Tx.F_law (T : Tx K mg) : FunD K "law" "law" (defArgs s_law) (defBody s_law) (defScope s_law) [] [] (He.fAd K ("law", none)) (fdOf K ("law", none)) := T.fd 13 rfl rfl rfl
theorem Tx.B_law (T : Tx K mg) : Binds K (fdOf K ("law", none)) ["_law_script"] [] := T.F_law.bindsN fun _ _ _ _ _ _ us hl => match us, hl with | [_], _ => rfl
abbrev N_law : List Str := ["_law_script", "_law_k", "_law_more", "_law_most", "_law_numbers", "_law_j", "_law_due", "_law_number", "_law_wide", "_law_handed", "_law_drawn_here", "_law_bits_here"]
theorem sc_law : FnScope N_law ["_law_script"] (defScope s_law) := ⟨rfl, rfl, rfl, by decide +kernel, rfl, by decide +kernel, by decide +kernel⟩
theorem Tx.g_needs (T : Tx K mg) : mg "needs" = some (.ref (He.ga K "needs")) := T.glo 0 rfl
theorem Tx.g_in_bits (T : Tx K mg) : mg "in_bits" = some (.ref (He.ga K "in_bits")) := T.glo 1 rfl
theorem Tx.g_out_of (T : Tx K mg) : mg "out_of" = some (.ref (He.ga K "out_of")) := T.glo 2 rfl
theorem Tx.g_need_bits (T : Tx K mg) : mg "need_bits" = some (.ref (He.ga K "need_bits")) := T.glo 3 rfl
theorem Tx.g_stepped (T : Tx K mg) : mg "stepped" = some (.ref (He.ga K "stepped")) := T.glo 4 rfl
theorem Tx.g_stepped_back (T : Tx K mg) : mg "stepped_back" = some (.ref (He.ga K "stepped_back")) := T.glo 5 rfl
theorem Tx.g__law_cell (T : Tx K mg) : mg "_law_cell" = some (.ref (He.ga K "_law_cell")) := T.glo 6 rfl
theorem Tx.g__law_drawn (T : Tx K mg) : mg "_law_drawn" = some (.ref (He.ga K "_law_drawn")) := T.glo 7 rfl
theorem Tx.g__law_word (T : Tx K mg) : mg "_law_word" = some (.ref (He.ga K "_law_word")) := T.glo 8 rfl
theorem Tx.g__law_told (T : Tx K mg) : mg "_law_told" = some (.ref (He.ga K "_law_told")) := T.glo 9 rfl
theorem Tx.g__law_needs (T : Tx K mg) : mg "_law_needs" = some (.ref (He.ga K "_law_needs")) := T.glo 10 rfl
theorem Tx.g__law_bits (T : Tx K mg) : mg "_law_bits" = some (.ref (He.ga K "_law_bits")) := T.glo 11 rfl
theorem Tx.g__law_read (T : Tx K mg) : mg "_law_read" = some (.ref (He.ga K "_law_read")) := T.glo 12 rfl
theorem Tx.g_law (T : Tx K mg) : mg "law" = some (.ref (He.ga K "law")) := T.glo 13 rfl
theorem Tx.z_range (T : Tx K mg) : mg "range" = none := T.free 14 rfl
theorem Tx.z_str (T : Tx K mg) : mg "str" = none := T.free 15 rfl
theorem Tx.z_int (T : Tx K mg) : mg "int" = none := T.free 16 rfl
theorem Tx.z_all (T : Tx K mg) : mg "all" = none := T.free 17 rfl
theorem Tx.z_len (T : Tx K mg) : mg "len" = none := T.free 18 rfl
theorem Tx.z_isinstance (T : Tx K mg) : mg "isinstance" = none := T.free 19 rfl
theorem Tx.z_sum (T : Tx K mg) : mg "sum" = none := T.free 20 rfl
theorem Tx.z_ValueError (T : Tx K mg) : mg "ValueError" = none := T.free 21 rfl
theorem Tx.z_max (T : Tx K mg) : mg "max" = none := T.free 22 rfl
theorem Tx.z_list (T : Tx K mg) : mg "list" = none := T.free 23 rfl
theorem Tx.z_min (T : Tx K mg) : mg "min" = none := T.free 24 rfl
theorem Tx.g_TerseError (T : Tx K mg) : mg "TerseError" = some (.ref (He.ga K "TerseError")) := T.glo 25 rfl
theorem Tx.x_TerseError (T : Tx K mg) : ExcF K mg "TerseError" := ⟨T.glo 25 rfl, He.exc_ok (T.fct 26 rfl)⟩
theorem Tx.m_TerseError (T : Tx K mg) : PySem.W.exmOne K (.ref (He.ga K "TerseError")) (.ref (He.ga K "TerseError")) = some true := He.exm_ok (T.fct 27 rfl)
theorem Tx.g_BadNumber (T : Tx K mg) : mg "BadNumber" = some (.ref (He.ga K "BadNumber")) := T.glo 28 rfl
theorem Tx.x_BadNumber (T : Tx K mg) : ExcF K mg "BadNumber" := ⟨T.glo 28 rfl, He.exc_ok (T.fct 29 rfl)⟩
theorem Tx.m_BadNumber (T : Tx K mg) : PySem.W.exmOne K (.ref (He.ga K "BadNumber")) (.ref (He.ga K "TerseError")) = some true := He.exm_ok (T.fct 30 rfl)
theorem Tx.g_BadBits (T : Tx K mg) : mg "BadBits" = some (.ref (He.ga K "BadBits")) := T.glo 31 rfl
theorem Tx.x_BadBits (T : Tx K mg) : ExcF K mg "BadBits" := ⟨T.glo 31 rfl, He.exc_ok (T.fct 32 rfl)⟩
theorem Tx.m_BadBits (T : Tx K mg) : PySem.W.exmOne K (.ref (He.ga K "BadBits")) (.ref (He.ga K "TerseError")) = some true := He.exm_ok (T.fct 33 rfl)
theorem Tx.g_BadPlace (T : Tx K mg) : mg "BadPlace" = some (.ref (He.ga K "BadPlace")) := T.glo 34 rfl
theorem Tx.x_BadPlace (T : Tx K mg) : ExcF K mg "BadPlace" := ⟨T.glo 34 rfl, He.exc_ok (T.fct 35 rfl)⟩
theorem Tx.m_BadPlace (T : Tx K mg) : PySem.W.exmOne K (.ref (He.ga K "BadPlace")) (.ref (He.ga K "TerseError")) = some true := He.exm_ok (T.fct 36 rfl)
theorem Tx.g_BadText (T : Tx K mg) : mg "BadText" = some (.ref (He.ga K "BadText")) := T.glo 37 rfl
theorem Tx.x_BadText (T : Tx K mg) : ExcF K mg "BadText" := ⟨T.glo 37 rfl, He.exc_ok (T.fct 38 rfl)⟩
theorem Tx.m_BadText (T : Tx K mg) : PySem.W.exmOne K (.ref (He.ga K "BadText")) (.ref (He.ga K "TerseError")) = some true := He.exm_ok (T.fct 39 rfl)
theorem Tx.g_BadCode (T : Tx K mg) : mg "BadCode" = some (.ref (He.ga K "BadCode")) := T.glo 40 rfl
theorem Tx.x_BadCode (T : Tx K mg) : ExcF K mg "BadCode" := ⟨T.glo 40 rfl, He.exc_ok (T.fct 41 rfl)⟩
theorem Tx.m_BadCode (T : Tx K mg) : PySem.W.exmOne K (.ref (He.ga K "BadCode")) (.ref (He.ga K "TerseError")) = some true := He.exm_ok (T.fct 42 rfl)
theorem Tx.g_BadTree (T : Tx K mg) : mg "BadTree" = some (.ref (He.ga K "BadTree")) := T.glo 43 rfl
theorem Tx.x_BadTree (T : Tx K mg) : ExcF K mg "BadTree" := ⟨T.glo 43 rfl, He.exc_ok (T.fct 44 rfl)⟩
theorem Tx.m_BadTree (T : Tx K mg) : PySem.W.exmOne K (.ref (He.ga K "BadTree")) (.ref (He.ga K "TerseError")) = some true := He.exm_ok (T.fct 45 rfl)
theorem Tx.g_TooMany (T : Tx K mg) : mg "TooMany" = some (.ref (He.ga K "TooMany")) := T.glo 46 rfl
theorem Tx.x_TooMany (T : Tx K mg) : ExcF K mg "TooMany" := ⟨T.glo 46 rfl, He.exc_ok (T.fct 47 rfl)⟩
theorem Tx.m_TooMany (T : Tx K mg) : PySem.W.exmOne K (.ref (He.ga K "TooMany")) (.ref (He.ga K "TerseError")) = some true := He.exm_ok (T.fct 48 rfl)
theorem tk_law : ((He.cT K ("law", none)).2, ((envOfC "law" (defScope (top 24)) 0 0 .none).qual ++ "<lambda>" : Str)) ∈ tK K := List.mem_singleton.mpr rfl
theorem tu_law : ∀ p ∈ tK K, p.1 = (He.cT K ("law", none)).2 → p.2 = ((envOfC "law" (defScope (top 24)) 0 0 .none).qual ++ "<lambda>" : Str) := fun p hp _ => by rw [List.mem_singleton.mp hp]
end
end Tw

set_option maxHeartbeats 4000000
namespace Tw
open PySem PySem.Spec PyProof.Rows L2 LamX
section
variable {P : Program} {w : World} {K : PySem.W.Frag} {mg : Str → Option Value} {base : Heap}
def spNeeds (K : PySem.W.Frag) : Sp := fun vs H Q E => ∃ n : Int, vs = [.int n] ∧ (0 ≤ n → Q (.int (nd n.toNat)) H) ∧ (n < 0 → E (.ref (He.ga K "BadNumber")) none H)
theorem ok_needs (T : Tx K mg) : OkN P w K mg base ("needs", none) 1 ["number"] (spNeeds K) := by
  refine T.F_needs.ok sc_needs (fun vs H Q E h => ?_) (fun cdv A outer s H vs Q E hr h => ?_)
  · obtain ⟨n, rfl, _⟩ := h
    rfl
  · obtain ⟨n, rfl, q1, q2⟩ := h
    refine ⟨_, (pss_cons (ps_if (pt_cmpR op_lt (pv 0) pe_int (nomark _))
    (pss_one (ps_rz T.x_BadNumber rfl (by decide))) pss_nil)
    (pss_cons (ps_set (i := 1) sc_needs.nd rfl (.inl rfl) pe_int)
    (pss_cons (ps_while (passes_of rfl) (pt_cmpR op_gt (pv 0) pe_int (nomark _))
    (pss_cons (ps_set (i := 0) sc_needs.nd rfl (.inl rfl) (pe_op op_fdiv (pv 0) pe_int))
    (pss_one (ps_set (i := 1) sc_needs.nd rfl (.inl rfl) (pe_op op_add (pv 1) pe_int)))))
    (pss_one (ps_ret (pv 1)))))), ?_⟩
    refine ⟨_, rfl, _, _, rfl, rfl, _, rfl, ite2 (fun e => q2 (of_decide_eq_true e)) (fun e => ?_)⟩
    have h0 : 0 ≤ n := by simp only [decide_eq_true_eq] at e; omega
    refine ⟨fun m σ H' => ∃ c : Nat, σ = [some (.int m), some (.int c)] ∧ H' = H ∧ c + nd m = nd n.toNat, ⟨n.toNat, 0, by rw [Int.toNat_of_nonneg h0]; rfl, rfl, Nat.zero_add _⟩, fun m σ H' hW => ?_⟩
    obtain ⟨c, rfl, rfl, ec⟩ := hW
    refine ⟨_, rfl, _, _, rfl, rfl, _, rfl, ite2 (fun e => ?_) (fun e => ?_)⟩
    · have hm : 0 < m := by simp only [decide_eq_true_eq] at e; omega
      refine ⟨fun σ' H'' => ∃ m', m' < m ∧ ∃ c : Nat, σ' = [some (.int m'), some (.int c)] ∧ H'' = H' ∧ c + nd m' = nd n.toNat, fun _ _ h => h, ?_⟩
      refine ⟨_, rfl, _, _, rfl, rfl, ⟨by decide, by decide⟩, _, rfl, _, _, rfl, rfl, m / 2, by omega, c + 1, ?_, rfl, ?_⟩
      · exact rfl
      · rw [← ec, nd_pos hm]; omega
    · have hm : m = 0 := by simp only [decide_eq_true_eq] at e; omega
      subst hm
      refine ⟨_, rfl, ?_⟩
      have e0 : c = nd n.toNat := by rw [← ec, nd_zero]; rfl
      rw [e0]
      exact q1 h0
def spLNeeds : Sp := fun vs H Q _ => ∃ n : Nat, vs = [.int n] ∧ Q (.int (nd n)) H
theorem ok__law_needs (T : Tx K mg) : OkN P w K mg base ("_law_needs", none) 1 ["_law_number"] spLNeeds := by
  refine T.F__law_needs.ok sc__law_needs (fun vs H Q E h => ?_) (fun cdv A outer s H vs Q E hr h => ?_)
  · obtain ⟨n, rfl, _⟩ := h
    rfl
  · obtain ⟨n, rfl, q1⟩ := h
    refine ⟨_, (pss_cons (ps_set (i := 1) sc__law_needs.nd rfl (.inl rfl) pe_int)
    (pss_cons (ps_while (passes_of rfl) (pt_cmpR op_gt (pv 0) pe_int (nomark _))
    (pss_cons (ps_set (i := 0) sc__law_needs.nd rfl (.inl rfl) (pe_op op_fdiv (pv 0) pe_int))
    (pss_one (ps_set (i := 1) sc__law_needs.nd rfl (.inl rfl) (pe_op op_add (pv 1) pe_int)))))
    (pss_one (ps_ret (pv 1))))), ?_⟩
    refine ⟨fun m σ H' => ∃ c : Nat, σ = [some (.int m), some (.int c)] ∧ H' = H ∧ c + nd m = nd n, ⟨n, 0, rfl, rfl, Nat.zero_add _⟩, fun m σ H' hW => ?_⟩
    obtain ⟨c, rfl, rfl, ec⟩ := hW
    refine ⟨_, rfl, _, _, rfl, rfl, _, rfl, ite2 (fun e => ?_) (fun e => ?_)⟩
    · have hm : 0 < m := by simp only [decide_eq_true_eq] at e; omega
      refine ⟨fun σ' H'' => ∃ m', m' < m ∧ ∃ c : Nat, σ' = [some (.int m'), some (.int c)] ∧ H'' = H' ∧ c + nd m' = nd n, fun _ _ h => h, ?_⟩
      refine ⟨_, rfl, _, _, rfl, rfl, ⟨by decide, by decide⟩, _, rfl, _, _, rfl, rfl, m / 2, by omega, c + 1, ?_, rfl, ?_⟩
      · exact rfl
      · rw [← ec, nd_pos hm]; omega
    · have hm : m = 0 := by simp only [decide_eq_true_eq] at e; omega
      subst hm
      refine ⟨_, rfl, ?_⟩
      have e0 : c = nd n := by rw [← ec, nd_zero]; rfl
      rw [e0]
      exact q1
def spInBits : Sp := fun vs H Q _ => ∃ n w : Nat, vs = [.int n, .int w] ∧ w ≤ 100000 ∧ Q (.str (sb (bn n w))) H
theorem ok_in_bits (T : Tx K mg) : OkN P w K mg base ("in_bits", none) 1 ["number", "wide"] spInBits := by
  refine T.F_in_bits.ok sc_in_bits (fun vs H Q E h => ?_) (fun cdv A outer s H vs Q E hr h => ?_)
  · obtain ⟨n, wd, rfl, _⟩ := h
    rfl
  · obtain ⟨n, wd, rfl, hw, q⟩ := h
    refine ⟨_, (pss_cons (ps_set (i := 2) sc_in_bits.nd rfl (.inl rfl) pe_str)
    (pss_cons (ps_for (passes_of rfl) rfl (pi_range1 (by rfl) T.z_range (pa_cons (pv 1) pa_nil)) (pg_name (i := 3) sc_in_bits.nd rfl (.inl rfl))
    (pss_cons (ps_set (i := 2) sc_in_bits.nd rfl (.inl rfl) (pe_op op_add_str (pe_callTy call_str_int (by rfl) T.z_str b_str (pa_cons (pe_op op_mod (pv 0) pe_int) pa_nil)) (pv 2)))
    (pss_one (ps_set (i := 0) sc_in_bits.nd rfl (.inl rfl) (pe_op op_fdiv (pv 0) pe_int)))))
    (pss_one (ps_ret (pv 2))))), ?_⟩
    refine ⟨_, rfl, _, rfl, by omega, by omega, for_it w_range (fun i σ H' => H' = H ∧ ∃ t, σ = [some (.int ((n / 2 ^ i : Nat) : Int)), some (.int wd), some (.str (sb (bn n i))), t]) ⟨rfl, none, by rw [Nat.pow_zero, Nat.div_one, bn, ← sb_nil]; rfl⟩ (fun _ _ _ _ _ => trivial) ?_ ?_⟩
    · intro i x σ H1 H2 hi p hy
      obtain ⟨rfl, t, rfl⟩ := p
      obtain ⟨rfl, rfl⟩ := hy
      have h2 : (((n / 2 ^ i : Nat) : Int) % 2).natAbs.log2 < 1920 := by
        have : (((n / 2 ^ i : Nat) : Int) % 2).natAbs < 2 := by omega
        refine Nat.lt_of_le_of_lt (Nat.log2_le_self _) ?_
        omega
      have hi2 : i < wd := by omega
      refine ⟨_, rfl, _, _, rfl, rfl, (show (0 : Int) < 2 by decide), _, rfl, h2, _, rfl, _, _, rfl, rfl, ?_, ?_⟩
      · rw [str_bit, sb_len, sb_len, bn_len]
        exact Nat.le_trans (by show 1 + i ≤ 100001; omega) (by decide)
      · refine ⟨_, rfl, _, _, rfl, rfl, ⟨by decide, by decide⟩, rfl, some (.int (0 + i)), ?_⟩
        have e : (Str.ofString (toString (((n / 2 ^ i : Nat) : Int) % 2)) : Str) ++ sb (bn n i) = sb (bn n (i + 1)) := by
          rw [str_bit, sb_app, bn_front]
          rfl
        have e2 : (((n / 2 ^ i : Nat) : Int) / 2) = ((n / 2 ^ (i + 1) : Nat) : Int) := by
          rw [Nat.pow_succ, ← Nat.div_div_eq_div_mul]
          omega
        rw [e, ← e2]
        rfl
    · intro σ H1 p
      obtain ⟨rfl, t, rfl⟩ := p
      exact ⟨_, rfl, by rw [Int.toNat_natCast] at *; exact q⟩
theorem ok__law_bits (T : Tx K mg) : OkN P w K mg base ("_law_bits", none) 1 ["_law_number", "_law_wide"] spInBits := by
  refine T.F__law_bits.ok sc__law_bits (fun vs H Q E h => ?_) (fun cdv A outer s H vs Q E hr h => ?_)
  · obtain ⟨n, wd, rfl, _⟩ := h
    rfl
  · obtain ⟨n, wd, rfl, hw, q⟩ := h
    refine ⟨_, (pss_cons (ps_set (i := 2) sc__law_bits.nd rfl (.inl rfl) pe_str)
    (pss_cons (ps_for (passes_of rfl) rfl (pi_range1 (by rfl) T.z_range (pa_cons (pv 1) pa_nil)) (pg_name (i := 3) sc__law_bits.nd rfl (.inl rfl))
    (pss_cons (ps_set (i := 2) sc__law_bits.nd rfl (.inl rfl) (pe_op op_add_str (pe_callTy call_str_int (by rfl) T.z_str b_str (pa_cons (pe_op op_mod (pv 0) pe_int) pa_nil)) (pv 2)))
    (pss_one (ps_set (i := 0) sc__law_bits.nd rfl (.inl rfl) (pe_op op_fdiv (pv 0) pe_int)))))
    (pss_one (ps_ret (pv 2))))), ?_⟩
    refine ⟨_, rfl, _, rfl, by omega, by omega, for_it w_range (fun i σ H' => H' = H ∧ ∃ t, σ = [some (.int ((n / 2 ^ i : Nat) : Int)), some (.int wd), some (.str (sb (bn n i))), t]) ⟨rfl, none, by rw [Nat.pow_zero, Nat.div_one, bn, ← sb_nil]; rfl⟩ (fun _ _ _ _ _ => trivial) ?_ ?_⟩
    · intro i x σ H1 H2 hi p hy
      obtain ⟨rfl, t, rfl⟩ := p
      obtain ⟨rfl, rfl⟩ := hy
      have h2 : (((n / 2 ^ i : Nat) : Int) % 2).natAbs.log2 < 1920 := by
        have : (((n / 2 ^ i : Nat) : Int) % 2).natAbs < 2 := by omega
        refine Nat.lt_of_le_of_lt (Nat.log2_le_self _) ?_
        omega
      have hi2 : i < wd := by omega
      refine ⟨_, rfl, _, _, rfl, rfl, (show (0 : Int) < 2 by decide), _, rfl, h2, _, rfl, _, _, rfl, rfl, ?_, ?_⟩
      · rw [str_bit, sb_len, sb_len, bn_len]
        exact Nat.le_trans (by show 1 + i ≤ 100001; omega) (by decide)
      · refine ⟨_, rfl, _, _, rfl, rfl, ⟨by decide, by decide⟩, rfl, some (.int (0 + i)), ?_⟩
        have e : (Str.ofString (toString (((n / 2 ^ i : Nat) : Int) % 2)) : Str) ++ sb (bn n i) = sb (bn n (i + 1)) := by
          rw [str_bit, sb_app, bn_front]
          rfl
        have e2 : (((n / 2 ^ i : Nat) : Int) / 2) = ((n / 2 ^ (i + 1) : Nat) : Int) := by
          rw [Nat.pow_succ, ← Nat.div_div_eq_div_mul]
          omega
        rw [e, ← e2]
        rfl
    · intro σ H1 p
      obtain ⟨rfl, t, rfl⟩ := p
      exact ⟨_, rfl, by rw [Int.toNat_natCast] at *; exact q⟩
def spOutOf : Sp := fun vs H Q _ => ∃ l : List Bool, vs = [.str (sb l)] ∧ l.length ≤ 100000 ∧ Q (.int (vb l)) H
theorem ok_out_of (T : Tx K mg) : OkN P w K mg base ("out_of", none) 1 ["bits"] spOutOf := by
  refine T.F_out_of.ok sc_out_of (fun vs H Q E h => ?_) (fun cdv A outer s H vs Q E hr h => ?_)
  · obtain ⟨l, rfl, _⟩ := h
    rfl
  · obtain ⟨l, rfl, hl, q⟩ := h
    refine ⟨_, (pss_cons (ps_set (i := 1) sc_out_of.nd rfl (.inl rfl) pe_int)
    (pss_cons (ps_for (passes_of rfl) rfl (pi_str (pv 0)) (pg_name (i := 2) sc_out_of.nd rfl (.inl rfl))
    (pss_one (ps_set (i := 1) sc_out_of.nd rfl (.inl rfl) (pe_op op_add (pe_op op_mul pe_int (pv 1)) (pe_callTy call_int_str (by rfl) T.z_int b_int (pa_cons (pv 2) pa_nil))))))
    (pss_one (ps_ret (pv 1))))), ?_⟩
    refine ⟨_, rfl, _, rfl, for_it w_str (fun i σ H' => H' = H ∧ ∃ t, σ = [some (.str (sb l)), some (.int (vb (l.take i))), t]) ⟨rfl, none, rfl⟩ (fun _ _ _ _ _ => trivial) ?_ ?_⟩
    · intro i x σ H1 H2 hi p hy
      obtain ⟨rfl, t, rfl⟩ := p
      obtain ⟨rfl, c, hc, rfl⟩ := hy
      rw [List.getElem?_map] at hc
      obtain ⟨b, hb, rfl⟩ := Option.map_eq_some_iff.mp hc
      refine ⟨_, rfl, _, _, rfl, rfl, .inl ⟨by decide, by decide⟩, _, rfl, _, _, rfl, int_bit b, by rw [S_len]; exact (by decide : 1 ≤ 640), _, _, rfl, rfl, rfl, some (.str (S [bc b])), ?_⟩
      have e : l.take (i + 1) = l.take i ++ [b] := by rw [List.take_add_one, hb]; rfl
      rw [e, vb_snoc]
      show [_, some (V.int (2 * (vb (l.take i) : Int) + (b.toNat : Int))), _] = [_, some (V.int ((2 * vb (l.take i) + b.toNat : Nat) : Int)), _]
      rw [Int.natCast_add, Int.natCast_mul]
      rfl
    · intro σ H1 p
      obtain ⟨rfl, t, rfl⟩ := p
      rw [List.length_map, List.take_length]
      exact ⟨_, rfl, q⟩
def spNeedBits (K : PySem.W.Frag) : Sp := fun vs H Q E => ∃ z : Str, vs = [.str z] ∧ z.length ≤ 100000 ∧ (IsB z → ∀ H', Xt (tK K) H H' → Q .non H') ∧ (¬ IsB z → ∀ H', Xt (tK K) H H' → E (.ref (He.ga K "BadBits")) none H')
theorem ok_need_bits (T : Tx K mg) : OkN P w K mg base ("need_bits", none) 1 ["bits"] (spNeedBits K) := by
  refine T.F_need_bits.ok sc_need_bits (fun vs H Q E h => ?_) (fun cdv A outer s H vs Q E hr h => ?_)
  · obtain ⟨z, rfl, _⟩ := h
    rfl
  · obtain ⟨z, rfl, hl, q1, q2⟩ := h
    obtain ⟨l, rfl⟩ : ∃ l, z = S l := ⟨_, S_of z⟩
    rw [S_len] at hl
    refine ⟨_, (pss_one (ps_if (pt_not (pt_val (pe_callB (cr_allK (K := K) rfl rfl) (by rfl) T.z_all b_all (pa_cons (pe_lc (own := [("sign", 1)]) rfl sc_need_bits.nd (pi_str (pv 0)) (blkOk_by (N := N_need_bits) (sc := defScope s_need_bits) (by decide +kernel)) (fun _ _ _ _ _ => (pg_name (i := 1) sc_need_bits.nd rfl (.inl rfl))) (fun _ _ _ _ _ => pts_nil) (fun _ _ _ _ _ => (pe_cmpR op_in_sign (pv 1) pe_str (by rfl)))) pa_nil))))
    (pss_one (ps_rz T.x_BadBits rfl (by decide))) pss_nil)), ?_⟩
    refine ⟨_, rfl, _, rfl, fun D hD => lcP (T := tK K) w_str hD (by omega) (fun _ _ => trivial) (fun i => .bl (decide (l.getD i 0 ∈ [48, 49]))) ?_ fun H1 x1 e1 => ?_⟩
    · intro i x H1 hi hy x1 Q q
      obtain ⟨c, hc, rfl⟩ := hy
      refine ⟨_, rfl, _, _, rfl, rfl, ?_⟩
      rw [signs01]
      have e : l.getD i 0 = c := by rw [List.getD_eq_getElem?_getD, hc]; rfl
      rw [e] at q
      exact q H1 Xt.refl
    · refine ⟨D, (List.range l.length).map fun i => decide (l.getD i 0 ∈ [48, 49]), rfl, SqL.of (by rw [e1, List.map_map]; rfl), _, rfl, ?_⟩
      rw [all_bits]
      refine ite2 (fun e => ?_) (fun e => ?_)
      · exact q2 (fun hb => by rw [isB_iff] at hb; rw [decide_eq_true hb] at e; cases e) H1 x1
      · refine q1 ((isB_iff l).mpr (by by_cases h : ∀ c ∈ l, c = 48 ∨ c = 49; exact h; rw [decide_eq_false h] at e; exact absurd rfl e)) H1 x1
end
end Tw

set_option maxHeartbeats 4000000
namespace Tw
open PySem PySem.Spec PyProof.Rows L2 LamX
section
variable {P : Program} {w : World} {K : PySem.W.Frag} {mg : Str → Option Value} {base : Heap}
def spStepped (K : PySem.W.Frag) : Sp := fun vs H Q E => ∃ (a : Addr) (ns : List Int), vs = [.ref a] ∧ SqL K H a (ns.map .int) ∧ ns.length ≤ 1000 ∧ (∀ n ∈ ns, n < 2 ^ 64) ∧
  ((∀ n ∈ ns, 0 ≤ n) → ∀ H', Xt (tK K) H H' → Q (.str (sb (stp (ns.map Int.toNat)))) H') ∧ ((∃ n ∈ ns, n < 0) → ∀ H', Xt (tK K) H H' → E (.ref (He.ga K "BadNumber")) none H')
theorem ok_stepped (T : Tx K mg) : OkN P w K mg base ("stepped", none) 2 ["numbers"] (spStepped K) := by
  refine T.F_stepped.ok sc_stepped (fun vs H Q E h => ?_) (fun cdv A outer s H vs Q E hr h => ?_)
  · obtain ⟨a, ns, rfl, _⟩ := h
    rfl
  · obtain ⟨a, ns, rfl, ha, hl, hb, q1, q2⟩ := h
    refine ⟨_, (pss_cons (ps_set (i := 1) sc_stepped.nd rfl (.inl rfl) (pe_lst pa_nil))
    (pss_cons (ps_for (passes_of rfl) rfl (pi_listK (K := K) rfl (pv 0)) (pg_name (i := 2) sc_stepped.nd rfl (.inl rfl))
    (pss_cons (ps_if (pt_cmpR op_lt (pv 2) pe_int (nomark _))
    (pss_one (ps_rz T.x_BadNumber rfl (by decide))) pss_nil)
    (pss_cons (ps_set (i := 3) sc_stepped.nd rfl (.inl rfl) (pe_callS (ok_needs T) (hr.mono (by decide)) (by rfl) T.g_needs T.F_needs.kp T.B_needs psE (pa_cons (pe_op op_add (pv 2) pe_int) pa_nil)))
    (pss_one (ps_expr (pe_bmK (K := K) rfl F.plainAttrs_list F.slot_list_append F.type_list_append mt_append (pv 1) (pa_cons (pe_op op_add_str (pe_callS (ok_in_bits T) (hr.mono (by decide)) (by rfl) T.g_in_bits T.F_in_bits.kp T.B_in_bits psE (pa_cons pe_int (pa_cons (pe_op op_sub (pv 3) pe_int) pa_nil))) (pe_callS (ok_in_bits T) (hr.mono (by decide)) (by rfl) T.g_in_bits T.F_in_bits.kp T.B_in_bits psE (pa_cons (pe_op op_add (pv 2) pe_int) (pa_cons (pv 3) pa_nil)))) pa_nil) (by rfl) (by rfl) (by rfl) (by rfl) (by rfl)))))))
    (pss_one (ps_ret (pe_joinK (K := K) rfl pe_str (pv 1) (by rfl) (by rfl) (by rfl)))))), ?_⟩
    refine ⟨by decide, fun p np => ?_⟩
    refine ⟨_, rfl, a, rfl, ⟨_, (Xt.new (T := tK K) np).seq ha⟩, for_it w_list (fun i σ H' => Xt (tK K) H H' ∧ H' p = some (.lst ((ns.take i).map fun n => .str (sb (st1 n.toNat)))) ∧ (∀ n ∈ ns.take i, 0 ≤ n) ∧ ∃ t u, σ = [some (.ref a), some (.ref p), t, u]) ⟨.new np, upd_same .., fun n hn => by simp at hn, none, none, rfl⟩ (fun i σ H' _ p => p.1.seq ha) ?_ ?_⟩
    · intro i x σ H1 H2 hi hp hy
      obtain ⟨x1, e1, hp, t, u, rfl⟩ := hp
      obtain ⟨rfl, hx⟩ := hy
      rw [List.getElem?_map] at hx
      obtain ⟨n, hn, rfl⟩ := Option.map_eq_some_iff.mp hx
      have mem : n ∈ ns := List.mem_of_getElem? hn
      refine ⟨_, rfl, _, _, rfl, rfl, _, rfl, ite2 (fun e => q2 ⟨n, mem, of_decide_eq_true e⟩ _ x1) (fun e => ?_)⟩
      have h0 : 0 ≤ n := by simp only [decide_eq_true_eq] at e; omega
      have hnb := hb n mem
      have en : n + 1 = ((n.toNat + 1 : Nat) : Int) := by omega
      have hw : nd (n.toNat + 1) ≤ 65 := (nd_le _ _).mpr (by omega)
      have hw0 := (nd_lo (show 0 < n.toNat + 1 by omega)).1
      have ew : ((nd (n.toNat + 1) : Nat) : Int) - 1 = ((nd (n.toNat + 1) - 1 : Nat) : Int) := by omega
      refine ⟨_, rfl, _, _, rfl, rfl, _, rfl, fun _ => ?_, fun h => absurd h (by omega)⟩
      rw [show (n + 1).toNat = n.toNat + 1 by omega]
      refine ⟨_, rfl, .inl ⟨rfl, _, SqL.of e1⟩, _, rfl, _, _, rfl, rfl, 0, nd (n.toNat + 1) - 1, ?_, by omega, ?_⟩
      · show [V.int 0, V.int (((nd (n.toNat + 1) : Nat) : Int) - 1)] = _
        rw [ew]
        rfl
      refine ⟨_, rfl, _, _, rfl, rfl, _, rfl, n.toNat + 1, nd (n.toNat + 1), ?_, by omega, ?_⟩
      · show [V.int (n + 1), V.int ((nd (n.toNat + 1) : Nat) : Int)] = _
        rw [en]
      refine ⟨_, _, rfl, rfl, ?_, ?_⟩
      · rw [sb_len, sb_len, bn_len, bn_len]
        exact Nat.le_trans (Nat.add_le_add (Nat.le_trans (Nat.sub_le _ _) hw) hw) (by decide)
      rw [sb_app, bn_zero]
      refine ⟨p, _, _, rfl, rfl, e1, ?_, x1.mut (Xt.nw (.refl (T := tK K)) (.of np)) e1, ?_, fun m hm => ?_, _, _, rfl⟩
      · rw [List.length_map, List.length_take]
        exact Nat.lt_of_le_of_lt (Nat.le_trans (Nat.min_le_right _ _) hl) (by decide)
      · rw [upd_same, List.take_add_one, hn, List.map_append]
        rfl
      · rw [List.take_add_one, hn, List.mem_append] at hm
        rcases hm with hm | hm
        · exact hp m hm
        · have em : m = n := by simpa using hm
          exact em ▸ h0
    · intro σ H1 hp
      obtain ⟨x1, e1, hp, t, u, rfl⟩ := hp
      rw [List.length_map, List.take_length] at hp e1
      refine ⟨⟨_, rfl⟩, _, rfl, S [], p, ((ns.map Int.toNat).map st1).map sb, rfl, rfl, .inl (SqL.of (by rw [e1, List.map_map, List.map_map, List.map_map]; rfl)), ?_, ?_⟩
      · rw [sum_len, S_len]
        have : ∀ l : List Int, (∀ n ∈ l, n < 2 ^ 64) → (((l.map Int.toNat).map st1).map List.length).sum ≤ l.length * 130 := by
          intro l
          induction l with
          | nil => intro _; simp
          | cons n l ih =>
            intro h
            have h1 := ih fun m hm => h m (List.mem_cons_of_mem _ hm)
            have h2 : (st1 n.toNat).length ≤ 130 := by
              have h3 := h n (List.mem_cons_self ..)
              have h4 : nd (n.toNat + 1) ≤ 65 := (nd_le _ _).mpr (by omega)
              unfold st1
              rw [List.length_append, List.length_replicate, bn_len]
              omega
            simp only [List.map_cons, List.sum_cons, List.length_cons]
            omega
        have := this ns hb
        simp only [List.length_nil, Nat.mul_zero, Nat.add_zero]
        omega
      · rw [show S [] = sb [] from rfl, join_sb]
        exact q1 hp H1 x1
def spBack (K : PySem.W.Frag) : Sp := fun vs H Q E => ∃ (z : Str), vs = [.str z] ∧ z.length ≤ 100000 ∧
  (∀ l ns, z = sb l → back l = some ns → ∀ H' p, Xt (tK K) H H' → Nw H p → H' p = some (.lst (ns.map .int)) → Q (.ref p) H') ∧ ((∀ l, z = sb l → back l = none) → ∀ H', Xt (tK K) H H' → E (.ref (He.ga K "BadBits")) none H')
theorem ok_stepped_back (T : Tx K mg) : OkN P w K mg base ("stepped_back", none) 2 ["bits"] (spBack K) := by
  refine T.F_stepped_back.ok sc_stepped_back (fun vs H Q E h => ?_) (fun cdv A outer s H vs Q E hr h => ?_)
  · obtain ⟨z, rfl, _⟩ := h
    rfl
  · obtain ⟨z, rfl, hl, q1, q2⟩ := h
    refine ⟨_, (pss_cons (ps_expr (pe_callS (ok_need_bits T) (hr.mono (by decide)) (by rfl) T.g_need_bits T.F_need_bits.kp T.B_need_bits psE (pa_cons (pv 0) pa_nil)))
    (pss_cons (ps_set (i := 1) sc_stepped_back.nd rfl (.inl rfl) (pe_lst pa_nil))
    (pss_cons (ps_set (i := 2) sc_stepped_back.nd rfl (.inl rfl) pe_int)
    (pss_cons (ps_while (passes_of rfl) (pt_cmpR op_lt (pv 2) (pe_callB call_len_str (by rfl) T.z_len b_len (pa_cons (pv 0) pa_nil)) (nomark _))
    (pss_cons (ps_set (i := 3) sc_stepped_back.nd rfl (.inl rfl) pe_int)
    (pss_cons (ps_while (passes_of rfl) (pt_cmpR op_eq (pe_slice sl_str (pv 0) (po_some (pv 2)) (po_some (pe_op op_add (pv 2) pe_int))) pe_str (nomark _))
    (pss_cons (ps_set (i := 2) sc_stepped_back.nd rfl (.inl rfl) (pe_op op_add (pv 2) pe_int))
    (pss_one (ps_set (i := 3) sc_stepped_back.nd rfl (.inl rfl) (pe_op op_add (pv 3) pe_int)))))
    (pss_cons (ps_if (pt_cmpR op_gt (pe_op op_add (pv 2) (pv 3)) (pe_callB call_len_str (by rfl) T.z_len b_len (pa_cons (pv 0) pa_nil)) (nomark _))
    (pss_one (ps_rz T.x_BadBits rfl (by decide))) pss_nil)
    (pss_cons (ps_expr (pe_bmK (K := K) rfl F.plainAttrs_list F.slot_list_append F.type_list_append mt_append (pv 1) (pa_cons (pe_op op_sub (pe_callS (ok_out_of T) (hr.mono (by decide)) (by rfl) T.g_out_of T.F_out_of.kp T.B_out_of psE (pa_cons (pe_slice sl_str (pv 0) (po_some (pv 2)) (po_some (pe_op op_add (pv 2) (pv 3)))) pa_nil)) pe_int) pa_nil) (by rfl) (by rfl) (by rfl) (by rfl) (by rfl)))
    (pss_one (ps_set (i := 2) sc_stepped_back.nd rfl (.inl rfl) (pe_op op_add (pv 2) (pv 3)))))))))
    (pss_one (ps_ret (pv 1))))))), ?_⟩
    refine ⟨_, rfl, z, rfl, hl, fun hb H1 x1 => ?_, fun hb H1 x1 => q2 (fun l e => absurd ⟨l, e⟩ hb) H1 x1⟩
    obtain ⟨l, rfl⟩ := hb
    rw [sb_len] at hl
    have hz : (sb l).length ≤ sizeLine := by rw [sb_len]; exact Nat.le_trans hl (by decide)
    refine ⟨by decide, fun p np => ?_⟩
    have np0 : Nw H p := x1.nw (.of np)
    have x1 := x1.trans (.new (o := .lst []) np)
    have e1 : (upd H1 p (.lst [])) p = some (.lst (([] : List Int).map .int)) := upd_same ..
    generalize upd H1 p (.lst []) = H2 at x1 e1 ⊢
    refine ⟨fun m σ H' => ∃ (at_ : Nat) (acc : List Int) (t : Option V), at_ + m = l.length ∧ σ = [some (.str (sb l)), some (.ref p), some (.int at_), t] ∧ Xt (tK K) H H' ∧ H' p = some (.lst (acc.map .int)) ∧ acc.length ≤ at_ ∧ back l = (back (l.drop at_)).map (acc ++ ·), ⟨l.length, 0, [], none, by omega, rfl, x1, e1, Nat.le_refl 0, by rw [List.drop_zero]; cases back l <;> rfl⟩, fun m σ H' hW => ?_⟩
    obtain ⟨at_, acc, t, hm, rfl, x2, e2, ha, hbk⟩ := hW
    refine ⟨_, rfl, _, rfl, _, rfl, hz, _, _, rfl, rfl, _, rfl, ite2 (fun e => ?_) (fun e => ?_)⟩
    · simp only [decide_eq_true_eq, sb_len] at e
      refine ⟨fun σ' H'' => ∃ m' < m, ∃ (at_ : Nat) (acc : List Int) (t : Option V), at_ + m' = l.length ∧ σ' = [some (.str (sb l)), some (.ref p), some (.int at_), t] ∧ Xt (tK K) H H'' ∧ H'' p = some (.lst (acc.map .int)) ∧ acc.length ≤ at_ ∧ back l = (back (l.drop at_)).map (acc ++ ·), fun _ _ h => h, ?_⟩
      have hzl := zs_le (l.drop at_)
      rw [List.length_drop] at hzl
      refine ⟨fun k σ2 H2 => ∃ z : Nat, z + k = zs (l.drop at_) ∧ σ2 = [some (.str (sb l)), some (.ref p), some (.int ((at_ + z : Nat) : Int)), some (.int ((z + 1 : Nat) : Int))] ∧ H2 = H', ⟨zs (l.drop at_), 0, Nat.zero_add _, rfl, rfl⟩, fun k σ2 H2 hW => ?_⟩
      obtain ⟨z, hk, rfl, rfl⟩ := hW
      have ecut : cutS (sb l) (some ((at_ + z : Nat) : Int)) (some (((at_ + z : Nat) : Int) + 1)) = sb (l[at_ + z]?).toList := by
        rw [show ((at_ + z : Nat) : Int) + 1 = ((at_ + z + 1 : Nat) : Int) by omega, cut_sb, bit_at]
      refine ⟨_, rfl, _, rfl, _, rfl, _, rfl, _, _, rfl, rfl, _, rfl, sb l, rfl, hz, rfl, _, rfl, ?_⟩
      rw [ecut]
      refine ite2 (fun e3 => ?_) (fun e3 => ?_)
      · have e4 : (l[at_ + z]?).toList = [false] := sb_inj ((V.str.inj (of_decide_eq_true e3)).trans sb_0)
        have hzz : z < zs (l.drop at_) := by
          apply Nat.lt_of_le_of_ne (by omega)
          intro h
          have := zs_at (l.drop at_)
          rw [← h, List.getElem?_drop] at this
          cases h5 : l[at_ + z]? with
          | none => rw [h5] at e4; cases e4
          | some b =>
            rw [h5] at e4 this
            cases e4
            exact this rfl
        refine ⟨fun σ3 H3 => ∃ k' < k, ∃ z : Nat, z + k' = zs (l.drop at_) ∧ σ3 = [some (.str (sb l)), some (.ref p), some (.int ((at_ + z : Nat) : Int)), some (.int ((z + 1 : Nat) : Int))] ∧ H3 = H2, fun _ _ h => h, ?_⟩
        refine ⟨_, rfl, _, _, rfl, rfl, _, rfl, _, _, rfl, rfl, k - 1, by omega, z + 1, by omega, ?_, rfl⟩
        rw [show ((at_ + (z + 1) : Nat) : Int) = ((at_ + z : Nat) : Int) + 1 by omega, show ((z + 1 + 1 : Nat) : Int) = ((z + 1 : Nat) : Int) + 1 by omega]
        rfl
      · have hzz : zs (l.drop at_) = z := by
          apply Nat.le_antisymm ?_ (by omega)
          apply Nat.le_of_not_lt
          intro h
          have := zs_lt (l.drop at_) z h
          rw [List.getElem?_drop] at this
          rw [this] at e3
          exact e3 (decide_eq_true (congrArg V.str sb_0.symm))
        have hrest : l.drop at_ ≠ [] := fun h => by
          have := congrArg List.length h
          rw [List.length_drop, List.length_nil] at this
          omega
        refine ⟨_, rfl, _, rfl, _, _, rfl, rfl, _, rfl, _, rfl, hz, _, _, rfl, rfl, _, rfl, ite2 (fun e5 => ?_) (fun e5 => ?_)⟩
        · simp only [decide_eq_true_eq, sb_len] at e5
          refine q2 (fun l' e6 => ?_) H2 x2
          have e6 := sb_inj e6
          subst e6
          rw [hbk, back_short hrest (by rw [List.length_drop, hzz]; omega)]
          rfl
        · simp only [decide_eq_true_eq, sb_len] at e5
          have ecut2 : cutS (sb l) (some ((at_ + z : Nat) : Int)) (some (((at_ + z : Nat) : Int) + ((z + 1 : Nat) : Int))) = sb (((l.drop at_).drop z).take (z + 1)) := by
            rw [← Int.natCast_add, cut_sb, List.drop_take, List.drop_drop, show at_ + z + (z + 1) - (at_ + z) = z + 1 by omega]
          refine ⟨_, rfl, .inl ⟨rfl, _, SqL.of e2⟩, _, rfl, _, rfl, _, rfl, _, rfl, _, rfl, _, _, rfl, rfl, _, rfl, sb l, rfl, hz, ((l.drop at_).drop z).take (z + 1), ?_, ?_, _, _, rfl, rfl, p, _, _, rfl, rfl, e2, ?_, ?_⟩
          · rw [ecut2]
          · rw [List.length_take, List.length_drop, List.length_drop]
            omega
          · rw [List.length_map]
            exact Nat.lt_of_le_of_lt (Nat.le_trans ha (Nat.le_trans (Nat.le_of_lt (Int.ofNat_lt.mp e)) hl)) (by decide)
          refine ⟨_, rfl, _, rfl, _, _, rfl, rfl, m - (2 * z + 1), by omega, at_ + (2 * z + 1), acc ++ [((vb (((l.drop at_).drop z).take (z + 1)) : Nat) : Int) - 1], some (.int ((z + 1 : Nat) : Int)), by omega, ?_, x2.mut np0 e2, ?_, ?_, ?_⟩
          · rw [show ((at_ + (2 * z + 1) : Nat) : Int) = ((at_ + z : Nat) : Int) + ((z + 1 : Nat) : Int) by omega]
            rfl
          · rw [upd_same, List.map_append]
            rfl
          · rw [List.length_append]
            show acc.length + 1 ≤ _
            omega
          · rw [hbk, back_more hrest (by rw [List.length_drop, hzz]; omega), hzz, show (l.drop at_).drop (2 * z + 1) = l.drop (at_ + (2 * z + 1)) from List.drop_drop ..]
            cases back (l.drop (at_ + (2 * z + 1))) with
            | none => rfl
            | some ns =>
              show some (acc ++ (_ :: ns)) = some (acc ++ [_] ++ ns)
              rw [List.append_assoc]
              rfl
    · simp only [decide_eq_true_eq, sb_len] at e
      refine ⟨_, rfl, q1 l acc rfl ?_ H' p x2 np0 e2⟩
      rw [hbk, List.drop_of_length_le (by omega), back_nil]
      show some (acc ++ []) = some acc
      rw [List.append_nil]
def spRead (K : PySem.W.Frag) : Sp := fun vs H Q _ => ∃ (l : List Bool), vs = [.str (sb l)] ∧ l.length ≤ 100000 ∧
  (∀ ns, back l = some ns → ∀ H' p, Xt (tK K) H H' → Nw H p → H' p = some (.lst (ns.map .int)) → Q (.ref p) H') ∧ (back l = none → ∀ H', Xt (tK K) H H' → Q (.str "BadBits") H')
theorem ok__law_read (T : Tx K mg) : OkN P w K mg base ("_law_read", none) 1 ["_law_bits_here"] (spRead K) := by
  refine T.F__law_read.ok sc__law_read (fun vs H Q E h => ?_) (fun cdv A outer s H vs Q E hr h => ?_)
  · obtain ⟨l, rfl, _⟩ := h
    rfl
  · obtain ⟨l, rfl, hl, q1, q2⟩ := h
    have hz : (sb l).length ≤ sizeLine := by rw [sb_len]; exact Nat.le_trans hl (by decide)
    refine ⟨_, (pss_cons (ps_set (i := 1) sc__law_read.nd rfl (.inl rfl) (pe_lst pa_nil))
    (pss_cons (ps_set (i := 2) sc__law_read.nd rfl (.inl rfl) pe_int)
    (pss_cons (ps_while (passes_of rfl) (pt_cmpR op_lt (pv 2) (pe_callB call_len_str (by rfl) T.z_len b_len (pa_cons (pv 0) pa_nil)) (nomark _))
    (pss_cons (ps_set (i := 3) sc__law_read.nd rfl (.inl rfl) (pe_bmK (K := K) rfl F.plainAttrs_str F.slot_str_find F.type_str_find mt_find3 (pv 0) (pa_cons pe_str (pa_cons (pv 2) pa_nil)) (by rfl) (by rfl) (by rfl) (by rfl) (by rfl)))
    (pss_cons (ps_if (PW.pt (pw_or (pt_cmpR op_lt (pv 3) pe_int (nomark _)) (pw_or1 (pt_cmpR op_ge (pe_op op_sub (pe_op op_mul pe_int (pv 3)) (pv 2)) (pe_callB call_len_str (by rfl) T.z_len b_len (pa_cons (pv 0) pa_nil)) (nomark _)))))
    (pss_one (ps_ret pe_str)) pss_nil)
    (pss_cons (ps_set (i := 4) sc__law_read.nd rfl (.inl rfl) pe_int)
    (pss_cons (ps_for (passes_of rfl) rfl (pi_str (pe_slice sl_str (pv 0) (po_some (pv 3)) (po_some (pe_op op_add (pe_op op_sub (pe_op op_mul pe_int (pv 3)) (pv 2)) pe_int)))) (pg_name (i := 5) sc__law_read.nd rfl (.inl rfl))
    (pss_one (ps_set (i := 4) sc__law_read.nd rfl (.inl rfl) (pe_op op_add (pe_op op_mul pe_int (pv 4)) (pe_callTy call_int_str (by rfl) T.z_int b_int (pa_cons (pv 5) pa_nil))))))
    (pss_cons (ps_expr (pe_bmK (K := K) rfl F.plainAttrs_list F.slot_list_append F.type_list_append mt_append (pv 1) (pa_cons (pe_op op_sub (pv 4) pe_int) pa_nil) (by rfl) (by rfl) (by rfl) (by rfl) (by rfl)))
    (pss_one (ps_set (i := 2) sc__law_read.nd rfl (.inl rfl) (pe_op op_add (pe_op op_sub (pe_op op_mul pe_int (pv 3)) (pv 2)) pe_int)))))))))
    (pss_one (ps_ret (pv 1)))))), ?_⟩
    refine ⟨by decide, fun p np => ?_⟩
    have np0 : Nw H p := .of np
    have x1 : Xt (tK K) H (upd H p (.lst [])) := .new np
    have e1 : (upd H p (.lst [])) p = some (.lst (([] : List Int).map .int)) := upd_same ..
    generalize upd H p (.lst []) = H2 at x1 e1 ⊢
    refine ⟨fun m σ H' => ∃ (at_ : Nat) (acc : List Int) (t u v : Option V), at_ + m = l.length ∧ σ = [some (.str (sb l)), some (.ref p), some (.int at_), t, u, v] ∧ Xt (tK K) H H' ∧ H' p = some (.lst (acc.map .int)) ∧ acc.length ≤ at_ ∧ back l = (back (l.drop at_)).map (acc ++ ·), ⟨l.length, 0, [], none, none, none, by omega, rfl, x1, e1, Nat.le_refl 0, by rw [List.drop_zero]; cases back l <;> rfl⟩, fun m σ H' hW => ?_⟩
    obtain ⟨at_, acc, t, u, v, hm, rfl, x2, e2, ha, hbk⟩ := hW
    refine ⟨_, rfl, _, rfl, _, rfl, hz, _, _, rfl, rfl, _, rfl, ite2 (fun e => ?_) (fun e => ?_)⟩
    · simp only [decide_eq_true_eq, sb_len] at e
      refine ⟨fun σ' H'' => ∃ m' < m, ∃ (at_ : Nat) (acc : List Int) (t u v : Option V), at_ + m' = l.length ∧ σ' = [some (.str (sb l)), some (.ref p), some (.int at_), t, u, v] ∧ Xt (tK K) H H'' ∧ H'' p = some (.lst (acc.map .int)) ∧ acc.length ≤ at_ ∧ back l = (back (l.drop at_)).map (acc ++ ·), fun _ _ h => h, ?_⟩
      have hrest : l.drop at_ ≠ [] := fun h => by
        have := congrArg List.length h
        rw [List.length_drop, List.length_nil] at this
        omega
      refine ⟨_, rfl, rfl, _, rfl, _, _, _, rfl, rfl, ?_⟩
      show gName 3 (V.int (Txt.find3 (sb l) "1" (at_ : Int))) _ _ _
      rcases find_one l at_ (Int.ofNat_lt.mp e) with ⟨ef, hzz⟩ | ⟨ef, hzz⟩
      · rw [ef]
        refine ⟨_, rfl, _, _, rfl, rfl, _, rfl, ite2 (fun _ => iteT ?_) (fun e3 => absurd (decide_eq_true (show (-1 : Int) < 0 by decide)) e3)⟩
        refine q2 ?_ H' x2
        rw [hbk, back_short hrest (by rw [hzz]; omega)]
        rfl
      · rw [ef]
        have hz0 : zs (l.drop at_) = zs (l.drop at_) := rfl
        obtain ⟨z, hzq⟩ : ∃ z, z = zs (l.drop at_) := ⟨_, rfl⟩
        rw [← hzq] at hzz ⊢
        rw [List.length_drop] at hzz
        refine ⟨_, rfl, _, _, rfl, rfl, _, rfl, ite2 (fun e3 => absurd (of_decide_eq_true e3) (by omega)) (fun _ => ?_)⟩
        refine ⟨_, rfl, _, _, rfl, rfl, .inl ⟨by decide, by decide⟩, _, rfl, _, _, rfl, rfl, _, rfl, _, rfl, hz, _, _, rfl, rfl, _, rfl, ite2 (fun e4 => ?_) (fun e4 => ?_)⟩
        · simp only [decide_eq_true_eq, sb_len] at e4
          refine q2 ?_ H' x2
          rw [hbk, back_short hrest (by rw [List.length_drop, ← hzq]; omega)]
          rfl
        · simp only [decide_eq_true_eq, sb_len] at e4
          have ecut2 : cutS (sb l) (some ((at_ + z : Nat) : Int)) (some (2 * ((at_ + z : Nat) : Int) - (at_ : Int) + 1)) = sb (((l.drop at_).drop z).take (z + 1)) := by
            rw [show 2 * ((at_ + z : Nat) : Int) - (at_ : Int) + 1 = ((at_ + z + (z + 1) : Nat) : Int) by omega, cut_sb, List.drop_take, List.drop_drop, show at_ + z + (z + 1) - (at_ + z) = z + 1 by omega]
          have hpl : (((l.drop at_).drop z).take (z + 1)).length = z + 1 := by
            rw [List.length_take, List.length_drop, List.length_drop]
            omega
          generalize hpq : ((l.drop at_).drop z).take (z + 1) = part at ecut2 hpl
          refine ⟨_, rfl, _, rfl, _, rfl, _, rfl, _, _, rfl, rfl, .inl ⟨by decide, by decide⟩, _, rfl, _, _, rfl, rfl, _, _, rfl, rfl, _, rfl, sb l, rfl, hz, sb part, ?_, for_it w_str (fun i σ H2 => H2 = H' ∧ ∃ t, σ = [some (.str (sb l)), some (.ref p), some (.int at_), some (.int ((at_ + z : Nat) : Int)), some (.int (vb (part.take i))), t]) ⟨rfl, _, rfl⟩ (fun _ _ _ _ _ => trivial) ?_ ?_⟩
          · rw [← ecut2]
          · intro i x σ H1 H2 hi hp hy
            obtain ⟨rfl, t, rfl⟩ := hp
            obtain ⟨rfl, c, hc, rfl⟩ := hy
            rw [List.getElem?_map] at hc
            obtain ⟨b, hb, rfl⟩ := Option.map_eq_some_iff.mp hc
            refine ⟨_, rfl, _, _, rfl, rfl, .inl ⟨by decide, by decide⟩, _, rfl, _, _, rfl, int_bit b, by rw [S_len]; exact (by decide : 1 ≤ 640), _, _, rfl, rfl, rfl, some (.str (S [bc b])), ?_⟩
            have e : part.take (i + 1) = part.take i ++ [b] := by rw [List.take_add_one, hb]; rfl
            rw [e, vb_snoc]
            have e5 : ((2 * vb (part.take i) + b.toNat : Nat) : Int) = 2 * (vb (part.take i) : Int) + (b.toNat : Int) := by omega
            rw [e5]
            rfl
          · intro σ H1 hp
            obtain ⟨rfl, t, rfl⟩ := hp
            rw [List.length_map, List.take_length]
            refine ⟨_, rfl, .inl ⟨rfl, _, SqL.of e2⟩, _, rfl, _, _, rfl, rfl, p, _, _, rfl, rfl, e2, ?_, ?_⟩
            · rw [List.length_map]
              exact Nat.lt_of_le_of_lt (Nat.le_trans ha (Nat.le_trans (Nat.le_of_lt (Int.ofNat_lt.mp e)) hl)) (by decide)
            refine ⟨_, rfl, _, _, rfl, rfl, .inl ⟨by decide, by decide⟩, _, rfl, _, _, rfl, rfl, _, _, rfl, rfl, m - (2 * z + 1), by omega, at_ + (2 * z + 1), acc ++ [((vb part : Nat) : Int) - 1], some (.int ((at_ + z : Nat) : Int)), some (.int (vb part)), t, by omega, ?_, x2.mut np0 e2, ?_, ?_, ?_⟩
            · rw [show ((at_ + (2 * z + 1) : Nat) : Int) = 2 * ((at_ + z : Nat) : Int) - (at_ : Int) + 1 by omega]
              rfl
            · rw [upd_same, List.map_append]
              rfl
            · rw [List.length_append]
              show acc.length + 1 ≤ _
              omega
            · rw [hbk, back_more hrest (by rw [List.length_drop, ← hzq]; omega), ← hzq, show (l.drop at_).drop (2 * z + 1) = l.drop (at_ + (2 * z + 1)) from List.drop_drop .., hpq]
              cases back (l.drop (at_ + (2 * z + 1))) with
              | none => rfl
              | some ns =>
                show some (acc ++ (_ :: ns)) = some (acc ++ [_] ++ ns)
                rw [List.append_assoc]
                rfl
    · simp only [decide_eq_true_eq, sb_len] at e
      refine ⟨_, rfl, q1 acc ?_ H' p x2 np0 e2⟩
      rw [hbk, List.drop_of_length_le (by omega), back_nil]
      show some (acc ++ []) = some acc
      rw [List.append_nil]
end
end Tw

set_option maxHeartbeats 4000000
namespace Tw
open PySem PySem.Spec PyProof.Rows L2 LamX
def spDrawn : Sp := fun vs H Q _ => ∃ c k : Int, vs = [.int c, .int k] ∧ 0 ≤ k ∧ k ≤ 1000000 ∧ Q (.int (dr c k)) H
section
variable {P : Program} {w : World} {K : PySem.W.Frag} {mg : Str → Option Value} {base : Heap}
theorem ok__law_drawn (T : Tx K mg) : OkN P w K mg base ("_law_drawn", none) 1 ["_law_cell_here", "_law_k"] spDrawn := by
  refine T.F__law_drawn.ok sc__law_drawn (fun vs H Q E h => ?_) (fun cdv A outer s H vs Q E hr h => ?_)
  · obtain ⟨c, k, rfl, _⟩ := h
    rfl
  · obtain ⟨c, k, rfl, h0, hk, q⟩ := h
    refine ⟨_, (pss_cons (ps_set (i := 2) sc__law_drawn.nd rfl (.inl rfl) (pe_op op_mod (pe_op op_add (pe_op op_mul (pv 0) pe_int) (pe_op op_mul (pe_op op_add (pv 1) pe_int) pe_int)) pe_int))
    (pss_cons (ps_set (i := 2) sc__law_drawn.nd rfl (.inl rfl) (pe_op op_mod (pe_op op_mulW (pv 2) (pv 2)) pe_int))
    (pss_cons (ps_set (i := 2) sc__law_drawn.nd rfl (.inl rfl) (pe_op op_mulW (pe_op op_mulW (pe_op op_add (pe_op op_mod (pv 2) pe_int) pe_int) (pe_op op_add (pe_op op_fdivW (pv 2) pe_int) pe_int)) (pv 2)))
    (pss_one (ps_ret (pe_op op_mod (pv 2) pe_int)))))), ?_⟩
    refine ⟨_, rfl, _, _, rfl, rfl, .inr ⟨by decide, by decide⟩, _, rfl, _, _, rfl, rfl, _, _, rfl, rfl, .inr ⟨by decide, by decide⟩, _, _, rfl, rfl, _, _, rfl, rfl, (show (0 : Int) < pA by decide), ?_⟩
    refine ⟨_, rfl, _, rfl, _, _, rfl, rfl, wide_mul (a := 129) (b := 129) (dr1_abs c k) (dr1_abs c k) (by decide) (by decide) (by decide), _, _, rfl, rfl, (show (0 : Int) < pB by decide), ?_⟩
    refine ⟨_, rfl, _, _, rfl, rfl, (show (0 : Int) < pC by decide), _, _, rfl, rfl, _, rfl, _, _, rfl, rfl, (wide_div (b := 64) (by decide) (by decide) (by decide) (by decide)), _, _, rfl, rfl, _, _, rfl, rfl, ?_, _, rfl, _, _, rfl, rfl, ?_, ?_⟩
    · exact wide_mul (a := 65) (b := 129) (dr2_a c k) (dr2_b c k) (by decide) (by decide) (by decide)
    · exact wide_mul (a := 194) (b := 129) (wide_lt (a := 65) (b := 129) (dr2_a c k) (dr2_b c k)) (dr2_abs c k) (by decide) (by decide) (by decide)
    exact ⟨_, rfl, _, _, rfl, rfl, (show (0 : Int) < pA by decide), q⟩
def spCell (K : PySem.W.Frag) : Sp := fun vs H Q _ => ∃ (a : Addr) (ns : List Int) (k : Nat), vs = [.ref a, .int k] ∧ SqL K H a (ns.map .int) ∧ k ≤ 1000000 ∧ ns.length ≤ 1000000 ∧ ∀ H', Xt (tK K) H H' → Q (.int (cellV ns k)) H'
theorem ok__law_cell (T : Tx K mg) : OkN P w K mg base ("_law_cell", none) 1 ["_law_script", "_law_k"] (spCell K) := by
  refine T.F__law_cell.ok sc__law_cell (fun vs H Q E h => ?_) (fun cdv A outer s H vs Q E hr h => ?_)
  · obtain ⟨a, ns, k, rfl, _⟩ := h
    rfl
  · obtain ⟨a, ns, k, rfl, ha, hk, hl, q⟩ := h
    refine ⟨_, (pss_cons (ps_if (pt_cmpR (op_eqDK (K := K) rfl hr.units) (pv 0) (pe_lst pa_nil) (nomark _))
    (pss_one (ps_ret (pe_op op_mul (pv 1) pe_int))) pss_nil)
    (pss_one (ps_ret (pe_op op_add (pe_ix (ix_listK (K := K) rfl) (pv 0) (pe_op op_mod (pv 1) (pe_callB (call_len_seqK (K := K) rfl) (by rfl) T.z_len b_len (pa_cons (pv 0) pa_nil))) (fun _ _ => rfl)) (pe_op op_mul (pe_op op_fdivW (pv 1) (pe_callB (call_len_seqK (K := K) rfl) (by rfl) T.z_len b_len (pa_cons (pv 0) pa_nil))) pe_int))))), ?_⟩
    refine ⟨_, rfl, by decide, fun p hp => ?_⟩
    have x : Xt (tK K) H (upd H p (.lst [])) := Xt.new hp
    refine eqD_of (d := .list (ns.map .int)) (e := .list (([] : List Int).map .int)) (dp_ints (x.seq ha)) (dp_ints (SqL.of (by rw [upd_same]; rfl))) sh_ints sh_ints ?_
    rw [eqv_ints]
    unfold cellV at q
    by_cases h0 : ns = []
    · rw [if_pos h0] at q
      rw [decide_eq_true h0]
      exact ⟨_, rfl, iteT ⟨_, rfl, _, _, rfl, rfl, .inr ⟨by decide, by decide⟩, q _ x⟩⟩
    · rw [if_neg h0] at q
      rw [decide_eq_false h0]
      have hn : 0 < ns.length := List.length_pos_iff.mpr h0
      have em : (k : Int) % ((ns.map V.int).length : Int) = ((k % ns.length : Nat) : Int) := by rw [List.length_map]; exact (Int.natCast_emod _ _).symm
      have ed : (k : Int) / ((ns.map V.int).length : Int) = ((k / ns.length : Nat) : Int) := by rw [List.length_map]; exact (Int.natCast_ediv _ _).symm
      have hm : k % ns.length < ns.length := Nat.mod_lt _ hn
      refine ⟨_, rfl, iteF ⟨_, rfl, _, rfl, _, rfl, _, _, rfl, .inl (x.seq ha), _, _, rfl, rfl, ?_, _, _, _, .int (ns.getD (k % ns.length) 0), rfl, rfl, x.seq ha, ?_, _, rfl, _, rfl, _, _, rfl, .inl (x.seq ha), _, _, rfl, rfl, ?_, _, _, rfl, rfl, .inr ⟨by decide, by decide⟩, _, _, rfl, rfl, ?_⟩⟩
      · show (0 : Int) < ((ns.map V.int).length : Int)
        rw [List.length_map]
        omega
      · rw [em]
        refine atI_nat ?_
        rw [List.getElem?_map, List.getD_eq_getElem?_getD, List.getElem?_eq_getElem hm]
        rfl
      · refine wide_div (b := 20) ?_ ?_ (by decide) (by decide)
        · rw [List.length_map]
          omega
        · rw [List.length_map]
          omega
      · rw [ed]
        exact q _ x
end
end Tw

set_option maxHeartbeats 4000000
namespace Tw
open PySem PySem.Spec PyProof.Rows L2 LamX
section
variable {P : Program} {w : World} {K : PySem.W.Frag} {mg : Str → Option Value} {base : Heap}
theorem hp__law_word (T : Tx K mg) {Tt : List (Addr × Str)} : FnHp P w K mg base 1 (He.fAd K ("_law_word", none)) (fdOf K ("_law_word", none)) ["_law_e"] (spWord K Tt) := by
  refine fn_hp T.F__law_word sc__law_word (fun p vs H Q h => ?_) (fun cdv A outer s H vs Q p hot hr h => ?_)
  · obtain ⟨x, hx, rfl, _⟩ := h
    rfl
  · obtain ⟨x, hx, rfl, hz, hf, q⟩ := h
    have b := bad_of T.more hx
    have hC := b.c
    obtain ⟨a, oe⟩ := p
    have hp : (a, oe) ∈ (L2H.cxH CX0 P w K mg base N__law_word "_law_word" (defScope s__law_word) (He.fAd K ("_law_word", none)) cdv A outer s H E0 (a, oe)).pn := List.mem_cons_self
    have hcx : L2H.HotC (L2H.cxH CX0 P w K mg base N__law_word "_law_word" (defScope s__law_word) (He.fAd K ("_law_word", none)) cdv A outer s H E0 (a, oe)) := ⟨_, hot, hp⟩
    refine ⟨_, (pss_cons (ps_set (i := 1) sc__law_word.nd rfl (.inl rfl) (pe_lst (pa_cons (pe_callB (call_isP hC hp hz hf) (by rfl) T.z_isinstance b_isinstance (pa_cons (pv 0) (pa_cons (pe_glob (v := .ref _) (by rfl) T.g_BadNumber rfl) pa_nil))) (pa_cons (pe_callB (call_isP hC hp hz hf) (by rfl) T.z_isinstance b_isinstance (pa_cons (pv 0) (pa_cons (pe_glob (v := .ref _) (by rfl) T.g_BadBits rfl) pa_nil))) (pa_cons (pe_callB (call_isP hC hp hz hf) (by rfl) T.z_isinstance b_isinstance (pa_cons (pv 0) (pa_cons (pe_glob (v := .ref _) (by rfl) T.g_BadPlace rfl) pa_nil))) pa_nil)))))
    (pss_cons (ps_set (i := 1) sc__law_word.nd rfl (.inl rfl) (pe_op op_cat (pv 1) (pe_lst (pa_cons (pe_callB (call_isP hC hp hz hf) (by rfl) T.z_isinstance b_isinstance (pa_cons (pv 0) (pa_cons (pe_glob (v := .ref _) (by rfl) T.g_BadText rfl) pa_nil))) pa_nil))))
    (pss_cons (ps_set (i := 1) sc__law_word.nd rfl (.inl rfl) (pe_op op_cat (pv 1) (pe_lst (pa_cons (pe_callB (call_isP hC hp hz hf) (by rfl) T.z_isinstance b_isinstance (pa_cons (pv 0) (pa_cons (pe_glob (v := .ref _) (by rfl) T.g_BadCode rfl) pa_nil))) (pa_cons (pe_callB (call_isP hC hp hz hf) (by rfl) T.z_isinstance b_isinstance (pa_cons (pv 0) (pa_cons (pe_glob (v := .ref _) (by rfl) T.g_BadTree rfl) pa_nil))) (pa_cons (pe_callB (call_isP hC hp hz hf) (by rfl) T.z_isinstance b_isinstance (pa_cons (pv 0) (pa_cons (pe_glob (v := .ref _) (by rfl) T.g_TooMany rfl) pa_nil))) pa_nil))))))
    (pss_cons (ps_if (PW.pt (pw_or (pt_cmpR op_ne (pe_callB (cr_sumH hcx) (by rfl) T.z_sum b_sum (pa_cons (pe_lcH (own := [("_law_flag", 2)]) hcx sc__law_word.nd (pv 1) (blkOk_by (N := N__law_word) (sc := defScope s__law_word) (by decide +kernel)) (fun _ _ _ _ _ => (pg_name (i := 2) sc__law_word.nd rfl (.inl rfl))) (fun _ _ _ _ _ => (pe_callTy call_int1 (by rfl) T.z_int b_int (pa_cons (pv 2) pa_nil)))) pa_nil)) pe_int (nomark _)) (pw_or1 (pt_not (pt_val (pe_callB (call_isP hC hp hz hf) (by rfl) T.z_isinstance b_isinstance (pa_cons (pv 0) (pa_cons (pe_bltn (v := .ty _) (by rfl) T.z_ValueError b_ValueError rfl) pa_nil))))))))
    (pss_one (ps_ret pe_str)) pss_nil)
    (pss_one (ps_ret (pe_ix (ix_listK (K := K) rfl) (pe_lst (pa_cons pe_str (pa_cons pe_str (pa_cons pe_str (pa_cons pe_str (pa_cons pe_str (pa_cons pe_str (pa_cons pe_str pa_nil)))))))) (pe_bmK (K := K) rfl F.plainAttrs_list F.slot_list_index F.type_list_index (mt_indexK (K := K) rfl) (pv 1) (pa_cons pe_bl pa_nil) (by rfl) (by rfl) (by rfl) (by rfl) (by rfl)) (fun _ _ => rfl)))))))), ?_⟩
    let c (y : Str) : V := .bl (decide (x = y))
    refine ⟨_, rfl, _, _, _, rfl, fun _ r => r, b.k "BadNumber" (by decide +kernel), _, rfl, _, _, _, rfl, fun _ r => r, b.k "BadBits" (by decide +kernel), _, rfl, _, _, _, rfl, fun _ r => r, b.k "BadPlace" (by decide +kernel), (by decide : 3 ≤ sizeLine), fun p1 n1 => ?_⟩
    have x1 : Xt Tt H (upd H p1 (.lst [c "BadNumber", c "BadBits", c "BadPlace"])) := .new n1
    have e1 : (upd H p1 (.lst [c "BadNumber", c "BadBits", c "BadPlace"])) p1 = some (.lst [c "BadNumber", c "BadBits", c "BadPlace"]) := upd_same ..
    generalize upd H p1 (.lst [c "BadNumber", c "BadBits", c "BadPlace"]) = H1 at x1 e1 ⊢
    refine ⟨_, rfl, _, rfl, _, _, _, rfl, fun _ r => r, b.k "BadText" (by decide +kernel), (by decide : 1 ≤ sizeLine), fun p2 n2 => ?_⟩
    have x2 : Xt Tt H (upd H1 p2 (.lst [c "BadText"])) := x1.trans (.new n2)
    refine ⟨_, _, _, _, rfl, rfl, (Xt.new (T := Tt) n2).lst e1, upd_same .., (by decide : 4 ≤ sizeLine), fun p3 n3 => ?_⟩
    have x3 := x2.trans (.new (T := Tt) (o := .lst [c "BadNumber", c "BadBits", c "BadPlace", c "BadText"]) n3)
    have e3 : (upd (upd H1 p2 (.lst [c "BadText"])) p3 (.lst [c "BadNumber", c "BadBits", c "BadPlace", c "BadText"])) p3 = some (.lst [c "BadNumber", c "BadBits", c "BadPlace", c "BadText"]) := upd_same ..
    show tSeq _ _ _ _ (upd (upd H1 p2 (.lst [c "BadText"])) p3 (.lst [c "BadNumber", c "BadBits", c "BadPlace", c "BadText"]))
    generalize upd (upd H1 p2 (.lst [c "BadText"])) p3 (.lst [c "BadNumber", c "BadBits", c "BadPlace", c "BadText"]) = H3 at x3 e3 ⊢
    refine ⟨_, rfl, _, rfl, _, _, _, rfl, fun _ r => r, b.k "BadCode" (by decide +kernel), _, rfl, _, _, _, rfl, fun _ r => r, b.k "BadTree" (by decide +kernel), _, rfl, _, _, _, rfl, fun _ r => r, b.k "TooMany" (by decide +kernel), (by decide : 3 ≤ sizeLine), fun p4 n4 => ?_⟩
    refine ⟨_, _, _, _, rfl, rfl, (Xt.new (T := Tt) n4).lst e3, upd_same .., (by decide : 7 ≤ sizeLine), fun p5 n5 => ?_⟩
    have x5 := (x3.trans (.new (T := Tt) (o := .lst [c "BadCode", c "BadTree", c "TooMany"]) n4)).trans (.new (T := Tt) (o := .lst (seven.map c)) n5)
    have e5 : (upd (upd H3 p4 (.lst [c "BadCode", c "BadTree", c "TooMany"])) p5 (.lst (seven.map c))) p5 = some (.lst (seven.map c)) := upd_same ..
    show tSeq _ _ _ _ (upd (upd H3 p4 (.lst [c "BadCode", c "BadTree", c "TooMany"])) p5 (.lst (seven.map c)))
    generalize upd (upd H3 p4 (.lst [c "BadCode", c "BadTree", c "TooMany"])) p5 (.lst (seven.map c)) = H5 at x5 e5 ⊢
    refine ⟨_, rfl, _, _, rfl, SqL.of e5, fun D hD => ⟨fun i H' => Xt Tt H H' ∧ H' p5 = some (.lst (seven.map c)) ∧ H' D = some (.lst ((seven.take i).map fun y => .int (if x = y then 1 else 0))), ?_, ?_, ?_, ?_⟩⟩
    · exact ⟨x5.trans (.new hD), (Xt.new (T := Tt) hD).lst e5, upd_same ..⟩
    · exact fun i H' h => SqL.of h.2.1
    · intro i v H' hv h
      refine ⟨rfl, ?_⟩
      obtain ⟨x6, h6, h7⟩ := h
      rw [List.getElem?_map] at hv
      obtain ⟨y, hy, rfl⟩ := Option.map_eq_some_iff.mp hv
      refine ⟨_, rfl, .inr ⟨_, rfl, _, h7, ?_, x6.mut (x5.nw (.of hD)) h7, ?_, ?_⟩⟩
      · rw [List.length_map, List.length_take]
        exact Nat.lt_of_le_of_lt (Nat.min_le_right _ _) (by decide)
      · rw [upd_ne (fun z => ?_)]
        · exact h6
        · rw [← z] at h7
          rw [h6] at h7
          have h8 := congrArg (fun o : Option HO => match o with | some (.lst (V.bl _ :: _)) => true | _ => false) h7
          cases i with
          | zero => cases h8
          | succ i => cases h8
      · rw [upd_same, List.take_add_one, hy, List.map_append]
        by_cases e : x = y
        · rw [decide_eq_true e]
          simp [e]
        · rw [decide_eq_false e]
          simp [e]
    · rintro H' ⟨x6, h6, h7⟩
      refine ⟨_, seven.map fun y => if x = y then 1 else 0, rfl, SqL.of ?_, ?_⟩
      · rw [h7]
        show some (HO.lst _) = some (HO.lst _)
        rw [List.map_map]
        rfl
      · have hs : (seven.map fun y => if x = y then (1 : Int) else 0).sum = 1 := by
          simp only [seven, List.mem_cons, List.not_mem_nil, or_false] at hx
          rcases hx with rfl | rfl | rfl | rfl | rfl | rfl | rfl <;> decide +kernel
        rw [hs]
        refine ⟨rfl, _, rfl, ite2 (fun z => absurd z (by decide)) fun _ => ?_⟩
        refine ⟨_, rfl, _, _, _, rfl, fun _ r => r, b.v, _, rfl, iteF ?_⟩
        refine ⟨by decide, fun p6 n6 => ?_⟩
        have h5 : (upd H' p6 (.lst (seven.map .str))) p5 = some (.lst (seven.map c)) := (Xt.new (T := Tt) n6).lst h6
        obtain ⟨j, hj, hl⟩ := List.mem_iff_getElem.mp hx
        have sq : SqL K (upd H' p6 (.lst (seven.map .str))) p5 (seven.map c) := SqL.of h5
        refine ⟨_, rfl, .inl ⟨rfl, _, sq⟩, p5, _, .bl true, j, .bl true, rfl, rfl, sq, rfl, ?_, ?_, rfl, ?_, ?_⟩
        · rw [List.all_eq_true]
          intro v hv
          obtain ⟨y, _, rfl⟩ := List.mem_map.mp hv
          rfl
        · rw [List.getElem?_map, List.getElem?_eq_getElem hj, hl]
          show some (V.bl (decide (x = x))) = _
          rw [decide_eq_true rfl]
        · intro m z hm hz
          rw [List.getElem?_map] at hz
          obtain ⟨y, hy, rfl⟩ := Option.map_eq_some_iff.mp hz
          have ne : x ≠ y := fun e => by
            have hm2 : m < seven.length := by omega
            rw [List.getElem?_eq_getElem hm2] at hy
            have hj3 : ∀ i (h : i < seven.length), ∀ k (h2 : k < seven.length), i < k → seven[i] ≠ seven[k] := by decide +kernel
            exact hj3 m hm2 j hj hm (by rw [hl, e]; exact Option.some.inj hy)
          show (decide (x = y) == true) = false
          rw [decide_eq_false ne]
          rfl
        · refine ⟨p6, seven.map .str, j, .str x, rfl, rfl, SqL.of (upd_same ..), atI_nat ?_, q _ (x6.trans (.new n6))⟩
          rw [List.getElem?_map, List.getElem?_eq_getElem hj, hl]
          rfl
end
def tTold (K : PySem.W.Frag) (t : XK → TE) : TE := fun σ H Q => Tabs (tK K) H ∧ ∀ H1, ExtN H H1 → Tabs (tK K) H1 → t (EW K (tK K) Q) σ H1 Q
section
variable {X : Cx} {K : PySem.W.Frag} {mg : Str → Option Value} {base : Heap}
theorem pe_told (T : Tx K mg) {at_ : He.Defn} {k : Nat} {params : Arguments} {body : Expr} {scope : Scope} {t : XK → TE} {p lpos pos : Pos}
    (TB : TabB base mg (He.cT K at_).1 (He.cT K at_).2) (hK : X.K = K) (hmg : X.mg = mg) (hbs : X.base = base) (hr : Room (k + 4) X.A) (hg : Gl X "_law_told") (hcode : X.env.code = .ref (He.cT K at_).1) (hmT : ((He.cT K at_).2, X.env.qual ++ "<lambda>") ∈ tK K)
    (hu : ∀ p ∈ tK K, p.1 = (He.cT K at_).2 → p.2 = X.env.qual ++ "<lambda>") (L : LamS X.env.scope scope) (hdef : defaultsOf params X.env = ([], []))
    (hbind : ∀ (q : Str) (cl : List (Str × Addr)) (pm cv ctv : Value), bindArgs (PySem.W.kla_fn "<lambda>" q params body scope cl pm cv ctv) ⟨[], []⟩ = pure [])
    (hbody : ∀ (A : Around) (outer : List Env) (s : Shared) (H : Hp) (E : XK) (f c' : Addr), Room (k + 2) (A.deeper (lamEnv X scope s.heap.objs.size f c')) → (∀ σ, PassesAt (L2N.CX X.prog X.w) (lamN X A outer s H E scope f c') σ E) → PE (lamN X A outer s H E scope f c') body (t E)) :
    PE X (.Call (.Name "_law_told" p) [.Lambda params body scope lpos] [] pos) (tTold K t) := by
  subst hK hmg hbs
  exact told_gen hg T.g__law_told T.F__law_told T.B__law_told sc__law_told rfl rfl rfl rfl T.g_TerseError T.g__law_word T.F__law_word.kp T.B__law_word (hp__law_word T) T.more TB hcode hmT hu hr L hdef hbind fun A outer s H E f c' hr2 => hbody A outer s H E f c' hr2 fun σ => psL σ
end
end Tw

set_option maxHeartbeats 4000000
namespace Tw
open PySem PySem.Spec PyProof.Rows L2 LamX
section
variable {P : Program} {w : World} {K : PySem.W.Frag} {mg : Str → Option Value} {base : Heap}
def spLaw (K : PySem.W.Frag) : Sp := fun vs H Q _ => ∃ (a : Addr) (ns : List Int), vs = [.ref a] ∧ SqL K H a (ns.map .int) ∧ ns.length ≤ 63 ∧ Tabs (tK K) H ∧ ∀ H', Q (.bl true) H'
theorem spLaw_of {H : Hp} {a : Addr} {ns : List Int} (hS : SqL K H a (ns.map V.int)) (hl : ns.length ≤ 63) (_ : ∀ z ∈ ns, Builtin.Int.intBits z ≤ 1048576) (hT : Tabs (tK K) H) : spLaw K [.ref a] H (fun v _ => v = .bl true) fun _ _ _ => False := ⟨a, ns, rfl, hS, hl, hT, fun _ => rfl⟩
def mosts11 : List Int := [1, 3, 8, 100, 10 ^ 6, 2 ^ 40]
theorem mosts11_le (j : Nat) (h : j < 6) : 0 < mosts11.getD j 0 ∧ mosts11.getD j 0 ≤ 1099511627776 := by
  have : ∀ i, i < 6 → 0 < mosts11.getD i 0 ∧ mosts11.getD i 0 ≤ 1099511627776 := by decide +kernel
  exact this j h
theorem ok_law (T : Tx K mg) (TB : TabB base mg (He.cT K ("law", none)).1 (He.cT K ("law", none)).2) : OkN P w K mg base ("law", none) 10 ["_law_script"] (spLaw K) := by
  refine okC T.F_law sc_law (fun vs H Q E h => ?_) (fun A outer s H0 vs Q E hr h => ?_)
  · obtain ⟨a, ns, rfl, _⟩ := h
    rfl
  · obtain ⟨a, ns, rfl, ha, hl, hT, q⟩ := h
    refine ⟨_, (pss_cons (ps_for (passes_of rfl) rfl (pi_range1 (by rfl) T.z_range (pa_cons (pe_callB (call_max2 rfl) (by rfl) T.z_max b_max (pa_cons pe_int (pa_cons (pe_callB (call_min2 rfl) (by rfl) T.z_min b_min (pa_cons pe_int (pa_cons (pe_callB (call_len_seqK (K := K) rfl) (by rfl) T.z_len b_len (pa_cons (pv 0) pa_nil)) pa_nil))) pa_nil))) pa_nil)) (pg_name (i := 1) sc_law.nd rfl (.inl rfl))
    (pss_cons (ps_set (i := 2) sc_law.nd rfl (.inr rfl) (pe_callS (ok__law_drawn T) (hr.mono (by decide)) (by rfl) T.g__law_drawn T.F__law_drawn.kp T.B__law_drawn psE (pa_cons (pe_callS (ok__law_cell T) (hr.mono (by decide)) (by rfl) T.g__law_cell T.F__law_cell.kp T.B__law_cell psE (pa_cons (pv 0) (pa_cons (pv 1) pa_nil))) (pa_cons (pv 1) pa_nil))))
    (pss_cons (ps_set (i := 3) sc_law.nd rfl (.inr rfl) (pe_ix (ix_listK (K := K) rfl) (pe_lst (pa_cons pe_int (pa_cons pe_int (pa_cons pe_int (pa_cons pe_int (pa_cons (pe_op op_pow pe_int pe_int) (pa_cons (pe_op op_pow pe_int pe_int) pa_nil))))))) (pe_op op_mod (pv 2) pe_int) (fun _ _ => rfl)))
    (pss_cons (ps_set (i := 4) sc_law.nd rfl (.inr rfl) (pe_lc (own := [("_law_j", 5)]) rfl sc_law.nd (pi_range1 (by rfl) T.z_range (pa_cons (pe_op op_mod (pe_op op_fdiv (pv 2) pe_int) pe_int) pa_nil)) (blkOk_by (N := N_law) (sc := defScope s_law) (by decide +kernel)) (fun _ _ _ _ _ => (pg_name (i := 5) sc_law.nd rfl (.inl rfl))) (fun _ _ _ _ _ => pts_nil) (fun _ _ _ _ _ => (pe_op op_mod (pe_callS (ok__law_drawn T) (hr.mono (by decide)) (by rfl) T.g__law_drawn T.F__law_drawn.kp T.B__law_drawn ps0 (pa_cons (pv 2) (pa_cons (pv 5) pa_nil))) (pv 3)))))
    (pss_cons (ps_set (i := 6) sc_law.nd rfl (.inr rfl) pe_str)
    (pss_cons (ps_for (passes_of rfl) rfl (pi_listK (K := K) rfl (pv 4)) (pg_name (i := 7) sc_law.nd rfl (.inl rfl))
    (pss_cons (ps_set (i := 8) sc_law.nd rfl (.inl rfl) (pe_callS (ok__law_needs T) (hr.mono (by decide)) (by rfl) T.g__law_needs T.F__law_needs.kp T.B__law_needs psE (pa_cons (pe_op op_add (pv 7) pe_int) pa_nil)))
    (pss_one (ps_set (i := 6) sc_law.nd rfl (.inr rfl) (pe_op op_add_str (pe_op op_add_str (pv 6) (pe_op op_repS pe_str (pe_op op_sub (pv 8) pe_int))) (pe_callS (ok__law_bits T) (hr.mono (by decide)) (by rfl) T.g__law_bits T.F__law_bits.kp T.B__law_bits psE (pa_cons (pe_op op_add (pv 7) pe_int) (pa_cons (pv 8) pa_nil))))))))
    (pss_cons (ps_set (i := 9) sc_law.nd rfl (.inr rfl) (pe_callTy (call_list_ofK (K := K) rfl) (by rfl) T.z_list b_list (pa_cons (pv 4) pa_nil)))
    (pss_cons (ps_if (PW.pt (pw_or (pt_cmpR (op_neDK (K := K) rfl hr.units) (pe_told T TB rfl rfl rfl hr (by rfl) (by rfl) (by exact tk_law) (by exact tu_law) (lamS_by (by rfl)) (by rfl) (by intros; rfl) (fun A outer s H E f c' hr2 hx2 => (pe_callS (ok_stepped T) (hr2.mono (by decide)) (by rfl) T.g_stepped T.F_stepped.kp T.B_stepped hx2 (pa_cons (pv 9) pa_nil)))) (pv 6) (nomark _)) (pw_or1 (pt_cmpR (op_neDK (K := K) rfl hr.units) (pv 9) (pe_callTy (call_list_ofK (K := K) rfl) (by rfl) T.z_list b_list (pa_cons (pv 4) pa_nil)) (nomark _)))))
    (pss_one (ps_ret pe_bl)) pss_nil)
    (pss_cons (ps_if (pt_cmpR (op_neDK (K := K) rfl hr.units) (pe_told T TB rfl rfl rfl hr (by rfl) (by rfl) (by exact tk_law) (by exact tu_law) (lamS_by (by rfl)) (by rfl) (by intros; rfl) (fun A outer s H E f c' hr2 hx2 => (pe_callS (ok_stepped_back T) (hr2.mono (by decide)) (by rfl) T.g_stepped_back T.F_stepped_back.kp T.B_stepped_back hx2 (pa_cons (pv 6) pa_nil)))) (pv 4) (nomark _))
    (pss_one (ps_ret pe_bl)) pss_nil)
    (pss_cons (ps_if (pt_cmpR (op_neDK (K := K) rfl hr.units) (pe_told T TB rfl rfl rfl hr (by rfl) (by rfl) (by exact tk_law) (by exact tu_law) (lamS_by (by rfl)) (by rfl) (by intros; rfl) (fun A outer s H E f c' hr2 hx2 => (pe_callS (ok_stepped T) (hr2.mono (by decide)) (by rfl) T.g_stepped T.F_stepped.kp T.B_stepped hx2 (pa_cons (pe_op op_cat (pv 4) (pe_lst (pa_cons (pe_un un_neg pe_int) pa_nil))) pa_nil)))) pe_str (nomark _))
    (pss_one (ps_ret pe_bl)) pss_nil)
    (pss_cons (ps_set (i := 10) sc_law.nd rfl (.inl rfl) (pe_callS (ok__law_bits T) (hr.mono (by decide)) (by rfl) T.g__law_bits T.F__law_bits.kp T.B__law_bits psE (pa_cons (pe_op op_mod (pe_op op_fdivW (pv 2) (pe_op op_pow pe_int pe_int)) (pe_op op_pow pe_int pe_int)) (pa_cons (pe_op op_mod (pe_op op_fdivW (pv 2) (pe_op op_pow pe_int pe_int)) pe_int) pa_nil))))
    (pss_cons (ps_for (passes_of rfl) rfl (pi_listK (K := K) rfl (pe_lst (pa_cons (pe_op op_add_str (pv 6) pe_str) (pa_cons (pe_slice sl_str (pv 6) po_none (po_some (pe_op op_sub (pe_callB call_len_str (by rfl) T.z_len b_len (pa_cons (pv 6) pa_nil)) pe_int))) (pa_cons (pv 10) (pa_cons (pe_op op_add_str (pv 6) (pv 10)) pa_nil)))))) (pg_name (i := 11) sc_law.nd rfl (.inr rfl))
    (pss_one (ps_if (pt_cmpR (op_neDK (K := K) rfl hr.units) (pe_told T TB rfl rfl rfl hr (by rfl) (by rfl) (by exact tk_law) (by exact tu_law) (lamS_by (by rfl)) (by rfl) (by intros; rfl) (fun A outer s H E f c' hr2 hx2 => (pe_callS (ok_stepped_back T) (hr2.mono (by decide)) (by rfl) T.g_stepped_back T.F_stepped_back.kp T.B_stepped_back hx2 (pa_cons (pv 11) pa_nil)))) (pe_callS (ok__law_read T) (hr.mono (by decide)) (by rfl) T.g__law_read T.F__law_read.kp T.B__law_read psE (pa_cons (pv 11) pa_nil)) (nomark _))
    (pss_one (ps_ret pe_bl)) pss_nil)))
    (pss_one (ps_if (pt_cmpR (op_neDK (K := K) rfl hr.units) (pe_told T TB rfl rfl rfl hr (by rfl) (by rfl) (by exact tk_law) (by exact tu_law) (lamS_by (by rfl)) (by rfl) (by intros; rfl) (fun A outer s H E f c' hr2 hx2 => (pe_callS (ok_stepped_back T) (hr2.mono (by decide)) (by rfl) T.g_stepped_back T.F_stepped_back.kp T.B_stepped_back hx2 (pa_cons (pe_op op_add_str (pv 6) pe_str) pa_nil)))) pe_str (nomark _))
    (pss_one (ps_ret pe_bl)) pss_nil))))))))))))))
    (pss_one (ps_ret pe_bl))), ?_⟩
    refine ⟨_, rfl, _, _, rfl, .inl ha, _, _, rfl, _, _, rfl, _, rfl, ?_, ?_, for_it w_range (fun i σ H' => Xt (tK K) H0 H' ∧ ∃ t, σ = some (.ref a) :: t ∧ t.length = 11) ⟨Xt.refl, _, rfl, rfl⟩ (fun _ _ _ _ _ => trivial) ?_ (fun σ H' h => q _)⟩
    · split <;> split <;> simp only [List.length_map] at * <;> omega
    · split <;> split <;> simp only [List.length_map] at * <;> omega
    intro k x σ H1 H2 hk p hy
    obtain ⟨x1, t, rfl, ht⟩ := p
    obtain ⟨rfl, rfl⟩ := hy
    have hk2 : k ≤ 63 := by
      have : ((if (if ((ns.map V.int).length : Int) < 5 then ((ns.map V.int).length : Int) else 5) > 1 then (if ((ns.map V.int).length : Int) < 5 then ((ns.map V.int).length : Int) else 5) else 1) : Int) ≤ 63 := by
        rw [List.length_map]
        split <;> split <;> omega
      omega
    match t, ht with
    | [o1, o2, o3, o4, o5, o6, o7, o8, o9, o10, o11], _ =>
    refine ⟨_, rfl, _, rfl, a, ns, k, ?_, x1.seq ha, by omega, by omega, fun H2 x2 => ?_⟩
    · rw [Int.zero_add]
    have x2 := x1.trans x2
    refine ⟨_, rfl, _, (0 + (k : Int)), rfl, by omega, by omega, ?_⟩
    generalize hm : dr (cellV ns k) (0 + (k : Int)) = m
    have hm0 : 0 ≤ m := by rw [← hm]; exact (dr_rng _ _).1
    have hmA : m < pA := by rw [← hm]; exact (dr_rng _ _).2
    generalize (0 + (k : Int)) = k0
    have h9 : ((m % 6).toNat : Int) = m % 6 := Int.toNat_of_nonneg (by omega)
    have h8 : (m % 6).toNat < 6 := by omega
    generalize (m % 6).toNat = j9 at h9 h8
    refine ⟨_, _, rfl, rfl, ⟨by decide, by decide, by decide⟩, _, _, rfl, rfl, ⟨by decide, by decide, by decide⟩, (by decide : 6 ≤ sizeLine), fun p3 n3 => ?_⟩
    refine ⟨_, rfl, _, _, rfl, rfl, (show (0 : Int) < 6 by decide), p3, mosts11.map .int, _, .int (mosts11.getD j9 0), rfl, rfl, SqL.of ((upd_same ..).trans (by rfl)), ?_, ?_⟩
    · rw [← h9]
      refine atI_nat ?_
      rw [List.getElem?_map, List.getD_eq_getElem?_getD, List.getElem?_eq_getElem h8]
      rfl
    have x3 := x2.trans (.new (T := tK K) (o := .lst (mosts11.map .int)) n3)
    have hmo := mosts11_le j9 h8
    generalize mosts11.getD j9 0 = mo at hmo ⊢
    show tSeq _ _ _ _ (upd H2 p3 (.lst (mosts11.map .int)))
    generalize upd H2 p3 (.lst (mosts11.map .int)) = H3 at x3 ⊢
    refine ⟨_, rfl, _, _, rfl, rfl, ⟨by decide, by decide⟩, _, _, rfl, rfl, (show (0 : Int) < 9 by decide), _, rfl, by omega, by omega, fun D4 n4 => lcP (T := tK K) w_range n4 (by omega) (fun _ _ => trivial) (fun j => .int (dr m j % mo)) ?_ fun H4 x4 e4 => ?_⟩
    · intro j x H4 hj hy x4 Q q
      have ej : (0 : Int) + (j : Int) = (j : Int) := Int.zero_add _
      rw [ej] at hy
      subst hy
      exact ⟨_, rfl, _, rfl, _, _, rfl, by omega, by omega, _, rfl, _, _, rfl, rfl, hmo.1, q _ Xt.refl⟩
    -- the numbers
    generalize hn : (m / 8 % 9).toNat = cn at e4
    have hcn : cn ≤ 8 := by omega
    obtain ⟨nz, enz⟩ : ∃ nz : List Nat, nz = (List.range cn).map fun j : Nat => (dr m (j : Int) % mo).toNat := ⟨_, rfl⟩
    have s4 : H4 D4 = some (.lst ((nz.map Int.ofNat).map .int)) := by
      rw [e4, enz, List.map_map, List.map_map]
      refine congrArg (fun l => some (HO.lst l)) (List.map_congr_left fun j _ => ?_)
      show V.int _ = V.int (((dr m j % mo).toNat : Nat) : Int)
      rw [Int.toNat_of_nonneg (Int.emod_nonneg _ (by omega))]
    have hln : nz.length ≤ 8 := by rw [enz, List.length_map, List.length_range]; exact hcn
    have hnd : ∀ n ∈ nz, n < 1099511627776 := fun n h => by
      rw [enz] at h
      obtain ⟨j, _, rfl⟩ := List.mem_map.mp h
      have h1 := Int.emod_lt_of_pos (dr m j) hmo.1
      have h2 := Int.emod_nonneg (dr m j) (show mo ≠ 0 by omega)
      omega
    clear enz hn e4
    have x4 := x3.trans x4
    have ld := stp_len hnd
    have ld : (stp nz).length ≤ 648 := Nat.le_trans ld (Nat.le_trans (Nat.mul_le_mul_right 81 hln) (by decide))
    have ldt : ∀ i, (stp (nz.take i)).length ≤ 648 := fun i => Nat.le_trans (stp_len fun n h => hnd n (List.mem_of_mem_take h)) (Nat.le_trans (Nat.mul_le_mul_right 81 (show (nz.take i).length ≤ 8 by rw [List.length_take]; omega)) (by decide))
    refine ⟨_, rfl, D4, rfl, ⟨_, SqL.of s4⟩, for_it w_list (fun i σ H' => H' = H4 ∧ ∃ t u, σ = [some (.ref a), some (.int k0), some (.int m), some (.int mo), some (.ref D4), o5, some (.str (sb (stp (nz.take i)))), t, u, o9, o10, o11]) ⟨rfl, o7, o8, rfl⟩ (fun _ _ _ _ p => p.1 ▸ SqL.of s4) ?_ ?_⟩
    · intro i x σ Ha Hb hi p hy
      obtain ⟨rfl, t, u, rfl⟩ := p
      obtain ⟨rfl, hy⟩ := hy
      rw [List.getElem?_map, List.getElem?_map] at hy
      obtain ⟨_, hn1, rfl⟩ := Option.map_eq_some_iff.mp hy
      obtain ⟨n, hn, rfl⟩ := Option.map_eq_some_iff.mp hn1
      have hn2 := st1_len (hnd n (List.mem_of_getElem? hn))
      have hw : nd (n + 1) ≤ 41 := (nd_le _ _).mpr (by have := hnd n (List.mem_of_getElem? hn); omega)
      have hw0 := (nd_lo (show 0 < n + 1 by omega)).1
      have e0 : (Str.ofString "0" : Str) = S [48] := by decide +kernel
      have ez : S (List.replicate (((nd (n + 1) : Nat) : Int) - 1).toNat 48) = sb (bn 0 (nd (n + 1) - 1)) := by
        rw [bn_zero]
        unfold sb
        rw [List.map_replicate, show (((nd (n + 1) : Nat) : Int) - 1).toNat = nd (n + 1) - 1 by omega]
        rfl
      refine ⟨_, rfl, _, _, rfl, rfl, n + 1, rfl, ?_⟩
      refine ⟨_, rfl, _, rfl, _, _, rfl, rfl, _, _, rfl, rfl, ?_, ?_⟩
      · rw [e0]
        exact mulOk_S (by omega) (by omega)
      rw [e0, mul_S, ez]
      refine ⟨_, _, rfl, rfl, ?_, _, rfl, _, _, rfl, rfl, _, rfl, n + 1, nd (n + 1), rfl, by omega, ?_⟩
      · rw [sb_len, sb_len, bn_len]
        exact Nat.le_trans (Nat.add_le_add (ldt i) (Nat.le_trans (Nat.sub_le _ _) hw)) (by decide)
      rw [sb_app]
      refine ⟨_, _, rfl, rfl, ?_, rfl, some (.int (n : Nat)), some (.int (nd (n + 1) : Nat)), ?_⟩
      · rw [sb_len, sb_len, bn_len, List.length_append, bn_len]
        exact Nat.le_trans (Nat.add_le_add (Nat.add_le_add (ldt i) (Nat.le_trans (Nat.sub_le _ _) hw)) hw) (by decide)
      · have e : stp (nz.take (i + 1)) = stp (nz.take i) ++ bn 0 (nd (n + 1) - 1) ++ bn (n + 1) (nd (n + 1)) := by
          rw [List.take_add_one, hn]
          show stp (nz.take i ++ [n]) = _
          rw [stp_snoc, List.append_assoc]
          unfold st1
          rw [bn_zero]
        rw [e, sb_app]
        rfl
    intro σ H5 p
    obtain ⟨rfl, t, u, rfl⟩ := p
    rw [List.length_map, List.length_map, List.take_length]
    refine ⟨_, rfl, _, _, rfl, .inl (SqL.of s4), fun p6 n6 => ?_⟩
    have e6 : (upd H5 p6 (.lst ((nz.map Int.ofNat).map .int))) p6 = some (.lst ((nz.map Int.ofNat).map .int)) := upd_same ..
    have x6 : Xt (tK K) H5 (upd H5 p6 (.lst ((nz.map Int.ofNat).map .int))) := .new n6
    have s6 := x6.lst s4
    have x6 := x4.trans x6
    generalize upd H5 p6 (.lst ((nz.map Int.ofNat).map .int)) = H6 at e6 x6 s6 ⊢
    have onz : (nz.map Int.ofNat).map Int.toNat = nz := by rw [List.map_map]; exact List.map_id nz
    -- stepped
    refine ⟨x6.2 hT, fun H7 xn t7 => ⟨_, rfl, p6, nz.map Int.ofNat, rfl, SqL.of (Xt.lst (T := tK K) ⟨xn, fun _ => t7⟩ e6), by rw [List.length_map]; omega, fun n hn => ?_, fun _ H8 x8 => ?_, fun ⟨n, hn, h⟩ => ?_⟩⟩
    · obtain ⟨n, hn2, rfl⟩ := List.mem_map.mp hn
      have := hnd n hn2
      show (n : Int) < 2 ^ 64
      omega
    rotate_left
    · obtain ⟨n, hn2, rfl⟩ := List.mem_map.mp hn
      exact absurd h (by simp)
    rw [onz]
    have x8 := Xt.trans (T := tK K) ⟨xn, fun _ => t7⟩ x8
    have e8 := x8.lst e6
    have s8 := x8.lst s6
    have x8 := x6.trans x8
    clear xn t7
    refine ⟨_, rfl, neD_same (.str _) (.str _) (sh_str (strOk_sb _)) ⟨_, rfl, iteF ?_⟩⟩
    refine ⟨_, rfl, _, rfl, _, _, rfl, .inl (SqL.of s8), fun p9 n9 => ?_⟩
    have e9 : (upd H8 p9 (.lst ((nz.map Int.ofNat).map .int))) p9 = some (.lst ((nz.map Int.ofNat).map .int)) := upd_same ..
    have x9 : Xt (tK K) H8 (upd H8 p9 (.lst ((nz.map Int.ofNat).map .int))) := .new n9
    refine neD_same (dp_ints (SqL.of (x9.lst e8))) (dp_ints (SqL.of e9)) sh_ints ⟨_, rfl, iteF ?_⟩
    have s9 := x9.lst s8
    have x9 := x8.trans x9
    generalize upd H8 p9 (.lst ((nz.map Int.ofNat).map .int)) = H9 at x9 s9 ⊢
    -- and back
    refine ⟨x9.2 hT, fun H10 xn t10 => ⟨_, rfl, _, rfl, by rw [sb_len]; omega, fun l ns e hb H11 p11 x11 n11 e11 => ?_, fun hb => ?_⟩⟩
    rotate_left
    · have := hb _ rfl
      rw [back_stp] at this
      cases this
    have e := sb_inj e
    subst e
    rw [back_stp] at hb
    have hb := Option.some.inj hb
    subst hb
    have x11 := Xt.trans (T := tK K) ⟨xn, fun _ => t10⟩ x11
    have s11 := x11.lst s9
    have x11 := x9.trans x11
    clear xn t10
    refine ⟨_, rfl, neD_same (dp_ints (SqL.of e11)) (dp_ints (SqL.of s11)) sh_ints ⟨_, rfl, iteF ?_⟩⟩
    clear n11 e11
    -- refused
    refine ⟨x11.2 hT, fun H31 xn t31 => ⟨_, rfl, _, rfl, by decide, fun p32 n32 => ⟨_, _, _, _, rfl, rfl, Xt.lst (T := tK K) ((Xt.trans (T := tK K) ⟨xn, fun _ => t31⟩ (.new n32))) s11, upd_same .., ?_, fun p33 n33 => ⟨p33, nz.map Int.ofNat ++ [-1], rfl, SqL.of ?_, ?_, fun n hn => ?_, fun hb => ?_, fun _ H34 x34 => ⟨"BadNumber", by decide +kernel, rfl, rfl, fun H35 x35 => ?_⟩⟩⟩⟩⟩
    · rw [List.length_map, List.length_map]
      exact Nat.le_trans (Nat.add_le_add_right hln 1) (by decide)
    · rw [upd_same, List.map_append]
      rfl
    · rw [List.length_append, List.length_map]
      show nz.length + 1 ≤ 1000
      omega
    · rcases List.mem_append.mp hn with hn | hn
      · obtain ⟨n, hn2, rfl⟩ := List.mem_map.mp hn
        have := hnd n hn2
        show (n : Int) < 2 ^ 64
        omega
      · have e : n = -1 := by simpa using hn
        rw [e]
        decide
    · exact absurd (hb (-1) (List.mem_append_right _ List.mem_cons_self)) (by decide)
    have x35 := (Xt.trans (T := tK K) ⟨xn, fun _ => t31⟩ (.new n32)).trans ((Xt.new n33).trans (x34.trans x35))
    have x35 := x11.trans x35
    clear xn t31 n32 n33 x34
    refine neC_same (.str _) (.str _) (sh_str (by decide +kernel)) ⟨_, rfl, iteF ?_⟩
    -- drawn bits
    have r1 : 0 ≤ m / 2 ^ 20 % 2 ^ 30 := Int.emod_nonneg _ (by decide)
    have r2 : 0 ≤ m / 2 ^ 50 % 31 := Int.emod_nonneg _ (by decide)
    have r3 : m / 2 ^ 50 % 31 < 31 := Int.emod_lt_of_pos _ (by decide)
    refine ⟨_, rfl, _, _, rfl, rfl, ⟨by decide, by decide, by decide⟩, _, _, rfl, rfl, (wide_div (b := 21) (by decide) (by decide) (by decide) (by decide)), _, _, rfl, rfl, ⟨by decide, by decide, by decide⟩, _, _, rfl, rfl, (show (0 : Int) < 2 ^ 30 by decide), _, rfl, _, _, rfl, rfl, ⟨by decide, by decide, by decide⟩, _, _, rfl, rfl, (wide_div (b := 51) (by decide) (by decide) (by decide) (by decide)), _, _, rfl, rfl, (show (0 : Int) < 31 by decide), ?_⟩
    refine ⟨(m / 2 ^ 20 % 2 ^ 30).toNat, (m / 2 ^ 50 % 31).toNat, ?_, by omega, ?_⟩
    · rw [Int.toNat_of_nonneg r1, Int.toNat_of_nonneg r2]
      rfl
    have le : (bn (m / 2 ^ 20 % 2 ^ 30).toNat (m / 2 ^ 50 % 31).toNat).length ≤ 30 := by rw [bn_len]; omega
    generalize bn (m / 2 ^ 20 % 2 ^ 30).toNat (m / 2 ^ 50 % 31).toNat = el at le ⊢
    -- any bits
    generalize hd : stp nz = d at ld ⊢
    refine ⟨_, rfl, _, _, rfl, rfl, ?_, ?_⟩
    · rw [sb_len, sb_0, sb_len]
      exact Nat.le_trans (Nat.add_le_add_right ld 1) (by decide)
    rw [sb_0, sb_app]
    refine ⟨_, rfl, _, rfl, _, rfl, ?_, _, _, rfl, rfl, _, rfl, sb d, rfl, ?_, ?_⟩
    · rw [sb_len]
      exact Nat.le_trans ld (by decide)
    · rw [sb_len]
      exact Nat.le_trans ld (by decide)
    rw [cut_last]
    refine ⟨_, rfl, _, rfl, _, rfl, _, _, rfl, rfl, ?_, by exact (by decide : 4 ≤ sizeLine), fun p42 n42 => ?_⟩
    · rw [sb_len, sb_len]
      exact Nat.le_trans (Nat.add_le_add ld le) (by decide)
    rw [sb_app]
    have e42 : (upd H35 p42 (.lst [.str (sb (d ++ [false])), .str (sb (d.take (d.length - 1))), .str (sb el), .str (sb (d ++ el))])) p42 = some (.lst ([d ++ [false], d.take (d.length - 1), el, d ++ el].map fun l => .str (sb l))) := upd_same ..
    have odd : ∀ l ∈ [d ++ [false], d.take (d.length - 1), el, d ++ el], l.length ≤ 700 := fun l h => by
      simp only [List.mem_cons, List.not_mem_nil, or_false] at h
      rcases h with rfl | rfl | rfl | rfl
      · rw [List.length_append]
        show _ + 1 ≤ 700
        omega
      · rw [List.length_take]
        omega
      · omega
      · rw [List.length_append]
        omega
    have x42 := x35.trans (.new (o := .lst [.str (sb (d ++ [false])), .str (sb (d.take (d.length - 1))), .str (sb el), .str (sb (d ++ el))]) n42)
    generalize upd H35 p42 (.lst [.str (sb (d ++ [false])), .str (sb (d.take (d.length - 1))), .str (sb el), .str (sb (d ++ el))]) = H42 at e42 x42 ⊢
    generalize [d ++ [false], d.take (d.length - 1), el, d ++ el] = ods at odd e42 ⊢
    refine ⟨p42, rfl, ⟨_, SqL.of e42⟩, for_it w_list (fun i σ H' => Xt (tK K) H42 H' ∧ ∃ z, σ = [some (.ref a), some (.int k0), some (.int m), some (.int mo), some (.ref D4), o5, some (.str (sb d)), t, u, some (.ref p6), some (.str (sb el)), z]) ⟨Xt.refl, _, rfl⟩ (fun _ _ _ _ p => SqL.of (p.1.lst e42)) ?_ ?_⟩
    · intro i x σ Ha Hb hi p hy
      obtain ⟨x43, z, rfl⟩ := p
      obtain ⟨rfl, hy⟩ := hy
      rw [List.getElem?_map] at hy
      obtain ⟨l, hl2, rfl⟩ := Option.map_eq_some_iff.mp hy
      have ol := odd l (List.mem_of_getElem? hl2)
      refine ⟨(x42.trans x43).2 hT, fun H44 xn t44 => ⟨_, rfl, _, rfl, by rw [sb_len]; omega, fun l' ns e hb H45 p45 x45 n45 e45 => ?_, fun hb H45 x45 => ⟨"BadBits", by decide +kernel, rfl, rfl, fun H46 x46 => ?_⟩⟩⟩
      · have e := sb_inj e
        subst e
        have x45 := Xt.trans (T := tK K) ⟨xn, fun _ => t44⟩ x45
        refine ⟨_, rfl, l, rfl, by omega, fun ns2 hb2 H46 p46 x46 n46 e46 => ?_, fun hb2 => by rw [hb] at hb2; cases hb2⟩
        rw [hb] at hb2
        cases hb2
        exact neD_same (dp_ints (SqL.of (x46.lst e45))) (dp_ints (SqL.of e46)) sh_ints ⟨_, rfl, iteF ⟨x43.trans (x45.trans x46), _, rfl⟩⟩
      · have hb := hb _ rfl
        have x46 := (Xt.trans (T := tK K) ⟨xn, fun _ => t44⟩ x45).trans x46
        refine ⟨_, rfl, l, rfl, by omega, fun ns2 hb2 => absurd (hb.symm.trans hb2) (by simp), fun _ H47 x47 => ?_⟩
        exact neD_same (.str _) (.str _) (sh_str (by decide +kernel)) ⟨_, rfl, iteF ⟨x43.trans (x46.trans x47), _, rfl⟩⟩
    · intro σ H44 p
      obtain ⟨x44, z, rfl⟩ := p
      have x44 := x42.trans x44
      have qa : (Str.ofString "a" : Str) = S [97] := by decide +kernel
      refine ⟨x44.2 hT, fun H45 xn t45 => ⟨_, rfl, _, _, rfl, rfl, ?_, _, rfl, ?_, fun l' ns e => ?_, fun hb H46 x46 => ⟨"BadBits", by decide +kernel, rfl, rfl, fun H47 x47 => ?_⟩⟩⟩
      · rw [qa, S_len, sb_len]
        exact Nat.le_trans (Nat.add_le_add_right ld 1) (by decide)
      · rw [qa, show sb d = S (d.map bc) from rfl, S_app, S_len, List.length_append, List.length_map]
        exact Nat.le_trans (Nat.add_le_add_right ld 1) (by decide)
      · exfalso
        rw [qa, show sb d = S (d.map bc) from rfl, S_app] at e
        rcases (isB_iff _).mp ⟨l', e⟩ 97 (by simp) with h | h <;> cases h
      · have x47 := x44.trans ((Xt.trans (T := tK K) ⟨xn, fun _ => t45⟩ x46).trans x47)
        exact neC_same (.str _) (.str _) (sh_str (by decide +kernel)) ⟨_, rfl, iteF ⟨x47, _, rfl, rfl⟩⟩
end
end Tw

set_option maxHeartbeats 0
namespace Tw
open PySem PySem.Spec PyProof.Rows L2 LamX
theorem law_at {w : World} {K : PySem.W.Frag} {mg : Str → Option Value} {fa : Addr} {h : Heap} (X : K.In h) (G : h.Ns mainGlobals mg) (hfa : mg ("law" : Str) = some (.ref fa)) (c : He.SaysX faL fnL [] tf exL w h K) :
    LamX.LawAtS PySem.Challenge.rw_tersewood_k11_numbers_in_steps w K (L2N.CX PySem.Challenge.rw_tersewood_k11_numbers_in_steps.prog w) 10 63 "_law_script" mg fa h := by
  have T : Tx K mg := ⟨⟨h, X, G, c.t.d⟩, c.more⟩
  have e := hfa.symm.trans T.g_law
  cases e
  refine ⟨fdOf K ("law", none), tf.map (He.cT K), spLaw K, fun p hp => ?_, fun p hp => ?_, fun p hp => ?_, fun s u => T.F_law.bindsA (ps := ["_law_script"]) (fun _ _ _ _ _ _ us hl => match us, hl with | [_], _ => rfl) s [u] rfl, fun H a ns hl hb hT hS => ?_, fun base KB GB hB => ok_law T (hB _ (List.mem_map_of_mem (f := He.cT K) (show (("law", none) : He.Defn) ∈ tf by decide +kernel)))⟩
  · obtain ⟨d, hd, rfl⟩ := List.mem_map.mp hp
    exact c.empty d hd
  · obtain ⟨d, hd, rfl⟩ := List.mem_map.mp hp
    exact c.out d hd
  · obtain ⟨d, hd, rfl⟩ := List.mem_map.mp hp
    exact PySem.W.codeHd_of_K X (c.hd d hd)
  · refine spLaw_of hS hl hb fun p hp => ?_
    unfold tK at hp
    simp only [List.mem_cons, List.not_mem_nil, or_false] at hp
    subst hp
    · exact TabS.nil (hT _ (List.mem_map_of_mem (f := He.cT K) (show (("law", none) : He.Defn) ∈ tf by decide +kernel)))
end Tw
open PySem PySem.W PySem.Calls PyProof.Rows
theorem PySem.Challenge.cw_tersewood_k11_numbers_in_steps_holds : PySem.Challenge.rw_tersewood_k11_numbers_in_steps.Holds := by
  w_on; o_law
  refine HandSHeadRun.head_any (r := OpenLaw.row PySem.Challenge.rw_tersewood_k11_numbers_in_steps) (q := view (OpenLaw.row PySem.Challenge.rw_tersewood_k11_numbers_in_steps).prog [24]) (H := Tw.hk) (ob := Tw.ob) (M := 30000) (loose := Tw.loose) (d := HandSHeadRun.topDef (OpenLaw.row PySem.Challenge.rw_tersewood_k11_numbers_in_steps).prog 24) (kwd := []) Tw.ob_eq
    (by kernel_rfl) (fun s => by kernel_rfl) Tw.run (by kernel_rfl) (by kernel_rfl) (by kernel_rfl) (by rfl) (by first | assumption | decide +kernel) (by decide +kernel) ⟨rfl, rfl, rfl, rfl, rfl, by decide +kernel⟩ ?hw ?hc
  case hw => w_witness2
  case hc =>
    refine LamX.walk_ofTsE (l := PySem.Challenge.rw_tersewood_k11_numbers_in_steps) (n := 63) (k := 10) (x := "_law_script") (CX := fun w => L2N.CX PySem.Challenge.rw_tersewood_k11_numbers_in_steps.prog w) rfl (by decide) (by kernel_rfl) ⟨rfl, by decide, by decide⟩ ?F (fun w H s e s2 z => ?_)
    · intro w mg fa h Y G hmg0
      obtain ⟨K, KX, c⟩ := Y
      have hmg : mg ("law" : PySem.Str) = some (.ref fa) := by
        have e : (HandSHeadRun.topDef (OpenLaw.row PySem.Challenge.rw_tersewood_k11_numbers_in_steps).prog 24).name = ("law" : PySem.Str) := by kernel_rfl
        rw [← e]
        exact hmg0
      exact ⟨K, KX, Tw.law_at KX G hmg c⟩
    · obtain ⟨_, _, _, _, _, _, _, _, _, _, _, _, z⟩ := z
      exact z
