import PyProof.Rows.All
import Wide.All
import OpenK.AllK
import Wide.FinOn
import KE.KStateDown
import Lean
import HandS.ForMost
import HandS.Exc
import HandS.TryOnly
import HandS.ExcOwn
import HandS.ExcCtx
import HandS.HotCalls
import HandS.ExcIs
import HandS.Lambda
import PyProof.SumAny
import HandS.Comp
import HandS.Defaults
import HandS.IsInst
import HandS.HeadHook1
import HandS.HeadHook2
import HandS.WordsExc
import HandS.Wide
import HandS.Evl
import HandS.SortInts
import HandS.HeadHook3
import HandS.HeadHook4
import HandS.StrMore
import HandS.Walk
import HandS.NestedK
import PyProof.P3Eq
import PyProof.StrBlock2
import PyProof.StrLawsFrom
import HandS.Head0
import HandS.Head1
import HandS.Head2
import HandS.HeadEnd
import HandS.HeadWalk
import HandS.EndTab
import PySem.Challenge.RW_tersewood_k21_room_and_looks
set_option Elab.async false
set_option linter.all false
set_option maxRecDepth 100000
set_option maxHeartbeats 4000000
namespace Tw
open PySem PySem.Spec PyProof.Rows L2 LamX
/-! ### a lambda called where what it lets out has no context (L2N) -/
section
variable {X : Cx} {pins : List (Addr × Obj)} {σ : L2.St} {H HZ : Hp} {s s1 : Shared}
/-- the wish of the lambda's frame -/
def lamW (X : Cx) (A : Around) (outer : List Env) (s : Shared) (H : Hp) (E : XK) (scope : Scope) (f c' : Addr) : Value → Shared → Prop :=
  fun e s' => wpAny (model X.prog X.w) (A.deeper (lamEnv X scope s.heap.objs.size f c')) (leaving (lamEnv X scope s.heap.objs.size f c') e)
    (fun _ s'' => L2N.CX X.prog X.w outer H s E e s'') (fun e' s'' => L2N.CX X.prog X.w outer H s E e' s'') s'
/-- the lambda's context, in L2N -/
def lamN (X : Cx) (A : Around) (outer : List Env) (s : Shared) (H : Hp) (E : XK) (scope : Scope) (f c' : Addr) : Cx :=
  (lamCx X A outer s H E scope f c').wish (lamW X A outer s H E scope f c')
theorem lamN_takes {A : Around} {outer : List Env} {E : XK} {scope : Scope} {f c' : Addr} :
    L2N.Takes (lamN X A outer s H E scope f c') (fun cls d _ H => E cls d H) :=
  L2N.takes_of (E₁ := fun e' s'' => L2N.CX X.prog X.w outer H s E e' s'') rfl rfl rfl rfl
/-- the call of a name that holds the lambda, in the def that got it -/
theorem act {CXg : CXT} {Eg : XK} {Ng : List Str} {qg : Str} {sg : Scope} {g f c' : Addr} {cdg pm ctv : Value} {params : Arguments} {body : Expr} {scope : Scope} {k i : Nat} {a : Str}
    {pn : List (Addr × Obj)} {xe : Value → Shared → Prop} {W : WX} {E : XK} {tb : TE} {p1 p2 : Pos}
    (I : Inv X pins σ H s) (L : LamS X.env.scope scope)
    (hf : s.heap.get? f = some (PySem.W.kla_obj "<lambda>" (X.env.qual ++ "<lambda>") params body scope (cloFrom X.env.cells scope.names []) pm c' ctv)) (hfn : H f = none) (hfr : f ∉ frs X.stack)
    (hbind : bindArgs (PySem.W.kla_fn "<lambda>" (X.env.qual ++ "<lambda>") params body scope (cloFrom X.env.cells scope.names []) pm (.ref c') ctv) ⟨[], []⟩ = pure [])
    (tk : L2N.Takes ((cxOf CXg X.prog X.w X.K X.mg X.base Ng qg sg g cdg X.A X.stack s H Eg).tr pn xe) W)
    (hW : ∀ cls d σ' H', E cls d H' → W cls d σ' H') (hr : Room (k + 1) (X.A.deeper (envOfC qg sg s.heap.objs.size g cdg)))
    (hbody : ∀ (A : Around) (outer : List Env) (s : Shared) (H : Hp), Room k (A.deeper (lamEnv X scope s.heap.objs.size f c')) → PE (lamN X A outer s H E scope f c') body tb)
    (hN : Ng[i]? = some a) (hv : Vis sg a) (hd : (a == ("__debug__" : Str)) = false) (hcd : (a == ("__classdict__" : Str)) = false) :
    PE ((cxOf CXg X.prog X.w X.K X.mg X.base Ng qg sg g cdg X.A X.stack s H Eg).tr pn xe) (.Call (.Name a p1) [] [] p2)
      (fun σZ HZ Q => σZ[i]? = some (some (.ref f)) ∧ HZ c' = some (CodeO c' (X.env.qual ++ "<lambda>")) ∧ tb σ HZ Q) := by
  constructor
  intro pinsZ sZ σZ HZ Q IZ ⟨hs, hc, ht⟩
  refine wpAny_Call_Name_kw (thn ((pe_var (pos := p1) (i := i) hN hv hd hcd).run pinsZ sZ σZ HZ (fun v H1 => v = .ref f ∧ H1 = HZ) IZ ⟨.ref f, hs, rfl, rfl⟩) fun u s1 ⟨v, H1, I1, r1, ev, eH⟩ => ?_)
  subst ev eH
  obtain rfl : u = Value.ref f := r1
  have un : Un (frs X.stack) [] H H1 s.heap s1.heap := I1.base
  have of1 := un.keep f _ hf hfn hfr (List.not_mem_nil)
  refine PySem.W.callWith_F0 ⟨_, _, _, _, of1⟩ ?_
  obtain ⟨⟨oc, vs, t, hoc, hdc, hvc⟩, _, _⟩ := I1.hok c' _ hc
  have rc : codeAny (model X.prog X.w) (X.A.deeper (envOfC qg sg s.heap.objs.size g cdg)) (.call (.ref f) ⟨[], []⟩) (CR (L2N.CX X.prog X.w) (envOfC qg sg s.heap.objs.size g cdg :: X.stack) X.prog X.w H1 s1 Q E) s1 := by
    refine PySem.W.kla_callFunE hr.depth of1 rfl L.co L.gen rfl ⟨c', oc, vs, t, rfl, hoc, hdc, hvc⟩ ?_
    rw [hbind]
    refine wpAny_pure (wpAny_newFunctionEnv (fun y hy => (L.own y hy).2) (fun y hy => absurd hy List.not_mem_nil) (fun h₁ hns hsb => ⟨I1.nolimit.fresh _ hsb, ?_⟩) L.kind)
    have kp : ∀ b o, s1.heap.get? b = some o → h₁.get? b = some o := fun b o e => hsb.extBut b o (Nat.ne_of_lt (Heap.lt_size e)) (Heap.get?_push_of_some _ e)
    have J := (lam_start2 (E := E) (A := X.A.deeper (envOfC qg sg s.heap.objs.size g cdg)) (outer := envOfC qg sg s.heap.objs.size g cdg :: X.stack) (f := f) (c' := c') (tk := s1.toks + ([] : List (Str × Value)).length) I L I1.env0 hr.hd un hns kp).wish
      (lamW X (X.A.deeper (envOfC qg sg s.heap.objs.size g cdg)) (envOfC qg sg s.heap.objs.size g cdg :: X.stack) s1 H1 E scope f c')
    refine PySem.W.kla_codeExpr (wpAny_mono ((hbody _ _ s1 H1 (hr.deeper _)).run [] _ _ H1 Q J ht) (fun v s' hq => ?_) fun e s' hq => hq)
    obtain ⟨w', H', J', rv, q⟩ := hq
    exact ⟨w', H', J'.os, J'.bare, J'.base, J'.hok, rv, q⟩
  refine wpAny_call (codeAny_mono rc fun r s' hq => ?_)
  cases r with
  | error e => exact L2N.passes_call tk hW pinsZ σZ H1 s1 e s' I1 hq
  | ok fl =>
    cases fl with
    | ret u => exact I1.after hq
    | next => exact hq.elim
    | brk => exact hq.elim
    | cont => exact hq.elim
end
end Tw

set_option maxHeartbeats 4000000
namespace Tw
open PySem PySem.Spec PyProof.Rows L2 HotX L2H
/-! ### lists walked while an exception is handled -/
section
variable {prog : Program} {w : World} {A : Around} {E : Value → Shared → Prop} {s : Shared}
/-- the list iterator's end, where an exception without a context is handled -/
theorem list_end_hot {it l x1 : Addr} {i : Nat} {items : Array Value} {Q : Option Value → Shared → Prop} (hot : HotAt A x1 s.heap) (hit : s.heap.IsListIter it l i) (hl : s.heap.IsList l items) (hx : items[i]? = none) (hne : x1 ≠ it)
    (hQ : ∀ h', Heap.ExtBut it s.heap h' → Q none { s with heap := h' }) : wpAny (model prog w) A (pyNext (.ref it)) Q E s := by
  obtain ⟨o, ho, hc, hd⟩ := id hit
  obtain ⟨ol, hol, _, nl, hdl⟩ := hl
  obtain ⟨hh, o1, vs1, h1, d1, c1⟩ := hot
  unfold pyNext
  refine wpAny_bind (wpAny_attempt (wpAny_callSpecial?_slot (name := Str.ofString "__next__") hit.typeIs slot_listiter_next (wpAny_call_entry slot_listiter_next hit.typeIs entry_listiter_next ?_ (args_listiter_next _))))
  show wpAny _ _ (field (.ref it) 0 >>= _) _ _ s
  refine wpAny_bind (wpAny_field ho hd (x := .ref l) rfl ?_)
  show wpAny _ _ (if (Value.ref l == Value.none) = true then _ else _) _ _ s
  rw [if_neg (show ¬ ((Value.ref l == Value.none) = true) from Bool.false_ne_true)]
  show wpAny _ _ (field (.ref it) 1 >>= _) _ _ s
  refine wpAny_bind (wpAny_field ho hd (x := .int i 0) rfl ?_)
  show wpAny _ _ (seqItems? (.ref l) >>= _) _ _ s
  refine wpAny_bind (wpAny_seqItems hol hdl ?_)
  simp only [Int.toNat_natCast, hx]
  refine wpAny_bind (wpAny_rule (wpAny_bind (wpAny_setField ho hd (by simp) ?_)))
  show wpAny _ _ (newExc (.type "StopIteration") [] >>= _) _ _ _
  refine wpAny_bind ?_
  simp only [newExc, newTuple]
  refine wpAny_bind (wpAny_newObj_type ?_ (by size_fits))
  refine wpAny_bind (m := firstArgMember _ _) (wpAny_of_eq (a := Value.none) (by first | rfl | (simp only [firstArgMember]; rfl)) ?_)
  refine wpAny_newObj_type ?_ (by size_fits)
  have k1 : ∀ (b : Addr) (u : Obj), b ≠ it → s.heap.get? b = some u → ∀ (f : Obj → Obj) (p q : Obj), (((s.heap.update it f).push p).push q).get? b = some u := fun b u hb e f p q =>
    Heap.get?_push_of_some _ (Heap.get?_push_of_some _ ((Heap.get?_update_other _ _ (Ne.symm hb)).trans e))
  have kx := k1 x1 o1 hne h1
  refine raiseNew_hot ⟨hh, o1, vs1, kx _ _ _, d1, c1⟩ (Nat.ne_of_lt (Heap.lt_size (Heap.get?_push_of_some _ ((Heap.get?_update_other _ _ (Ne.symm hne)).trans h1)))) (Heap.get?_push_size _ rfl) rfl (by first | (simp; done) | (simp; omega) | (simp only [Array.size_append]; simp; omega)) ?_
  refine wpAny_bind (wpAny_isInstance (T := "StopIteration") (b := true) ⟨_, Heap.get?_update_self _ (Heap.get?_push_size _ rfl) rfl, rfl⟩ isSubtype_stop ?_)
  refine wpAny_pure (hQ _ fun b u hb e => ?_)
  rw [Heap.get?_update_other _ _ (Nat.ne_of_gt (Heap.lt_size (Heap.get?_push_of_some _ ((Heap.get?_update_other _ _ (Ne.symm hb)).trans e))))]
  exact k1 b u hb e _ _ _
end

/-- a list walked there, for the library's sum -/
theorem walks_hot {prog : Program} {w : World} {A : Around} {x1 : Addr} {o1 : Obj} {vs1 : Array Value} (hh : A.handled = some (.ref x1)) (d1 : o1.data = .fields vs1) (c1 : vs1[2]? = some .none) (I ax : Addr) (hne : ax ≠ I) (hx : x1 ≠ I) (items : Array Value) :
    Walks prog w A I [I, ax, x1] [I] items.size (fun i v => items[i]? = some v) (fun i h => h.IsListIter I ax i ∧ h.IsList ax items ∧ h.get? x1 = some o1) where
  sub := fun b hb => by
    have e : b = I := List.mem_singleton.mp hb
    rw [e]
    exact List.mem_cons_self
  frame := fun _ _ _ st hk => ⟨st.1.at fun o e => hk I (by simp) o e, st.2.1.at fun o e => hk ax (by simp) o e, hk x1 (by simp) _ st.2.2⟩
  item := fun i s Q E hi st hQ => by
    refine wpAny_pyNext_list_item st.1 st.2.1 (x := items[i]) (by simp [hi]) fun h' hit' hs' => ?_
    exact hQ _ h' s.toks (by simp [hi]) ⟨hit', st.2.1.extBut hs'.extBut hne, hs'.extBut x1 _ hx st.2.2⟩ fun b o hb e => hs'.extBut b o (fun h => hb (by simp [h])) e
  done := fun s Q E st hQ => by
    refine list_end_hot ⟨hh, o1, vs1, st.2.2, d1, c1⟩ st.1 st.2.1 (by simp) hx fun h' eb => ?_
    exact hQ h' s.toks fun b o hb e => eb b o (fun h => hb (by simp [h])) e
  self := fun i s Q E st h => wpAny_pyIter_listiter st.1 h
section
variable {X : Cx} {pins : List (Addr × Obj)} {σ : L2.St} {H : Hp} {s : Shared}
/-- sum(xs) there -/
theorem cr_sumH (hc : HotC X) : CallR X (.builtin "sum") (rSum X.K) := by
  intro pins s σ H vs us Q I r h
  obtain ⟨a, ns, rfl, hs, q⟩ := h
  obtain ⟨its, rv, hl, _⟩ := I.list hs
  rw [Vals.ref1 r]
  obtain ⟨p, ⟨hh, v1, e1, c1⟩, hp⟩ := hc
  have P1 := (I.pin p (List.mem_append_left _ hp)).1
  have hi := rv.ints
  obtain ⟨xs, e⟩ := hi.allInts.items
  have hn : numsOf (intItems xs).toList = ns := by rw [← e]; exact hi.numsOf
  rw [nums_intItems] at hn
  have hl2 := hl.isList
  rw [e] at hl2
  refine call_sum_walkG (iter_intList hl2 fun s₂ es st hfp hlI => ?_)
  have k2 : ∀ b o, s.heap.get? b = some o → s₂.heap.get? b = some o := fun b o e => by
    rw [es]
    exact Heap.get?_push_of_some _ e
  have hx : p.1 ≠ s.heap.objs.size := Nat.ne_of_lt (Heap.lt_size P1)
  subst es
  refine ⟨_, _, _, _, _, _, numAt xs, rfl, walks_hot (A := X.A.in1) hh e1 c1 _ a hlI hx (intItems xs), ⟨st.1, st.2, k2 _ _ P1⟩, fun b hb => ?_, (fun _ _ => intItems_at), fun h' tk t' hk => ?_⟩
  · have hb2 : b = s.heap.objs.size ∨ b = a ∨ b = p.1 := by simpa using hb
    rcases hb2 with e | e | e
    · exact hfp b (by simp [e])
    · exact hfp b (by simp [e])
    · rw [e]
      exact Heap.lt_size (k2 _ _ P1)
  · refine ⟨.int _, H, I.kept (h' := h') (t' := tk) (old_kept hk), ⟨t', rfl⟩, ?_⟩
    have e4 : preSum (numAt xs) (intItems xs).size = ns.sum := by
      rw [show (intItems xs).size = xs.size by simp [intItems], preSum_eq, List.take_of_length_le (by simp), hn]
    rw [e4]
    exact q
end
end Tw

set_option maxHeartbeats 4000000
namespace Tw
open PySem PySem.Spec PyProof.Rows L2 HotX L2H
section
variable {X : Cx} {pins : List (Addr × Obj)} {σ : L2.St} {H : Hp} {s : Shared} {a it : Addr} {xs : List V} {i : Nat}
theorem list_item_any {A : Around} {E : Value → Shared → Prop} {x : V} (I : Inv X pins σ H s) (hq : SqL X.K H a xs) (hx : xs[i]? = some x) (st : s.heap.IsListIter it a i) (f : FpOk X pins H it) {Q : Option Value → Shared → Prop}
    (q : ∀ u s1, RelV x u → Inv X pins σ H s1 → s1.heap.IsListIter it a (i + 1) → Q (some u) s1) : wpAny (model X.prog X.w) A (pyNext (.ref it)) Q E s := by
  obtain ⟨its, rv, p, hz⟩ := I.list hq
  obtain ⟨u, hu, ru⟩ := rv.get hx
  obtain ⟨f0, f1, f2, f3, f4, f5⟩ := f
  refine wpAny_pyNext_list_item st p.isList (x := u) (by simpa using hu) fun h' st' sb => ?_
  exact q u _ ru (I.turned (t' := s.toks) (fun b o hb e => (sb.2 b hb).trans e) f0 f1 f3 f4 f5) st'
theorem list_done_hot {A : Around} {E : Value → Shared → Prop} {x1 : Addr} (I : Inv X pins σ H s) (hot : HotAt A x1 s.heap) (hq : SqL X.K H a xs) (hx : xs.length ≤ i) (st : s.heap.IsListIter it a i) (f : FpOk X pins H it) (hne : x1 ≠ it) {Q : Option Value → Shared → Prop}
    (q : ∀ s1, Inv X pins σ H s1 → Q none s1) : wpAny (model X.prog X.w) A (pyNext (.ref it)) Q E s := by
  obtain ⟨its, rv, p, hz⟩ := I.list hq
  obtain ⟨f0, f1, f2, f3, f4, f5⟩ := f
  have hl := rv.length
  exact list_end_hot hot st p.isList (by simp; omega) hne fun h' eb => q _ (I.turned (t' := s.toks) (fun b o hb e => eb b o hb e) f0 f1 f3 f4 f5)
end
section
variable {X : Cx}
/-- [elt for target in l] where an exception is handled; the list l stands still -/
def tLcH (K : PySem.W.Frag) (tl : TE) (g : TG) (te : TE) (vs : List Nat) : TE := fun σ H Q => tl σ H fun x H1 => ∃ a xs, x = .ref a ∧ SqL K H1 a xs ∧ ∀ D, H1 D = none → ∃ W : Nat → Hp → Prop, W 0 (upd H1 D (.lst [])) ∧ (∀ i H, W i H → SqL K H a xs) ∧
  (∀ i x H, xs[i]? = some x → W i H → g x (wipe σ vs) H fun σ2 H2 => wipe σ2 vs = wipe σ vs ∧ te σ2 H2 fun y H4 => ∃ acc, H4 D = some (.lst acc) ∧ acc.length < sizeLine ∧ W (i + 1) (upd H4 D (.lst (acc ++ [y])))) ∧
  (∀ H, W xs.length H → Q (.ref D) H)
theorem pe_lcH {elt tg iter : Expr} {scope : Scope} {own : List (Str × Nat)} {pos : Pos} {tl : TE} {g : TG} {te : TE} (hc : HotC X) (hN : X.N.Nodup) (hl : PE X iter tl) (ok : BlkOk X.N X.env.scope scope own)
    (hg : ∀ (s : Shared) (H : Hp) (C : Addr) (cl : List (Str × Addr)) (fp : List Addr), PG (X.blk s H scope (compEnvC scope cl C X.env) fp) tg g)
    (he : ∀ (s : Shared) (H : Hp) (C : Addr) (cl : List (Str × Addr)) (fp : List Addr), PE (X.blk s H scope (compEnvC scope cl C X.env) fp) elt te) (hs : ∀ x, foldedSetIterable iter X.env x = pure x := by intro _; rfl) :
    PE X (.ListComp elt [⟨tg, iter, [], 0⟩] scope pos) (tLcH X.K tl g te (own.map (·.2))) := by
  refine ⟨fun pins s σ H Q I h => ?_⟩
  rw [eval_ListComp]
  have hfree : ∀ y ∈ scope.names, y.2 = .free → ∃ c, X.env.cells.lookup y.1 = some c := fun y hy e => by
    rcases ok.free y hy e with k | k
    · exact I.ok.has _ (.inl k)
    · exact I.ok.has _ (.inr k)
  obtain ⟨p, ⟨hh, v1, e1, c1⟩, hp⟩ := hc
  refine wpAny_comprehension_free (use := none) rfl hs (closure_ok hfree) ok.kind (fun y hy e => by rw [ok.uniq y hy, e]) ?_
  refine thn (hl.run pins s σ H _ I h) fun v s1 ⟨x, H1, I1, r1, a, xs, ex, hq, step⟩ => ?_
  subst ex
  cases r1
  obtain ⟨its, rv, pl, hz⟩ := I1.list hq
  refine wpAny_pyIter_list pl.isList ?_
  -- the iterator, the new list, the block's frame
  generalize hit : s1.heap.objs.size = it
  have I2 : Inv X pins σ H1 { s1 with heap := s1.heap.push { cls := .type "list_iterator", data := .fields #[.ref a, .int 0 0] } } := I1.kept (t' := s1.toks) fun b o e => Heap.get?_push_of_some _ e
  have f2 : FpOk X pins H1 it := by
    have z := I1.fpOk (H' := H1) (b := it) (by rw [← hit]; exact Nat.le_refl _) (I1.hok.fresh (by rw [← hit]; exact Nat.le_refl _))
    exact z
  have st2 : ({ s1 with heap := s1.heap.push { cls := .type "list_iterator", data := .fields #[.ref a, .int 0 0] } } : Shared).heap.IsListIter it a 0 := ⟨_, by rw [← hit]; exact Heap.get?_push_size _ rfl, rfl, rfl⟩
  generalize ({ s1 with heap := s1.heap.push { cls := .type "list_iterator", data := .fields #[.ref a, .int 0 0] } } : Shared) = s2 at I2 st2 ⊢
  refine wpAny_newObj_type (newEnv_comp ?_) (by show 0 ≤ sizeLine; decide)
  generalize hD : s2.heap.objs.size = D
  have hDn : H1 D = none := I2.hok.fresh (Nat.le_of_eq hD)
  obtain ⟨W, w0, wl, wt, we⟩ := step D hDn
  generalize hs3 : ({ s2 with heap := s2.heap.push { cls := .type "list", data := .seq ([] : List Value).toArray } } : Shared) = s3
  have h3 : s3.heap = s2.heap.push { cls := .type "list", data := .seq ([] : List Value).toArray } := by rw [← hs3]
  have I3 : Inv X pins σ (upd H1 D (.lst [])) s3 := by
    rw [← hs3]
    refine I2.laid (t' := s2.toks) (fun b o e => Heap.get?_push_of_some _ e) (Nat.le_of_eq hD) ⟨Nat.zero_le _, [], 0, .nil, ?_⟩
    rw [← hD]
    exact Heap.get?_push_size _ rfl
  have ltI : it < s2.heap.objs.size := by
    obtain ⟨o, e, _⟩ := st2
    exact Heap.lt_size e
  have f3 : ∀ b ∈ [it], FpOk X pins (upd H1 D (.lst [])) b ∧ b < s3.heap.objs.size := fun b hb => by
    have eb : b = it := List.mem_singleton.mp hb
    subst eb
    refine ⟨⟨?_, f2.2⟩, by rw [h3, Heap.size_push]; exact Nat.lt_succ_of_lt ltI⟩
    rw [upd_ne (by rw [← hD]; exact Nat.ne_of_lt ltI)]
    exact f2.1
  have st3 : s3.heap.IsListIter it a 0 := st2.at fun o e => by rw [h3]; exact Heap.get?_push_of_some _ e
  have P3 := I3.pin p (List.mem_append_left _ hp)
  have hx1 : p.1 ≠ it := (f3 it List.mem_cons_self).1.2.2.2.2.2 p (List.mem_append_left _ hp)
  have I4 := block_start I3 ok hN f3
  have pg := hg s3 (upd H1 D (.lst [])) s3.heap.objs.size (cellsFrom (s3.heap.objs.size + 1) scope.names (cloFrom X.env.cells scope.names [])) [it]
  have pe := he s3 (upd H1 D (.lst [])) s3.heap.objs.size (cellsFrom (s3.heap.objs.size + 1) scope.names (cloFrom X.env.cells scope.names [])) [it]
  show codeAny _ _ (.compStart (.ListComp elt [⟨tg, iter, [], 0⟩] scope pos) 0 (.ref it) (.ref D) (compEnvC scope (cellsFrom (s3.heap.objs.size + 1) scope.names (cloFrom X.env.cells scope.names [])) s3.heap.objs.size X.env)) (compPost (model X.prog X.w) X.A X.xe none (EP X pins σ Q) (.ref D) s3.heap.objs.size) { s3 with heap := pushCells (s3.heap.push { cls := .type "dict", data := .dict #[] }) scope.names }
  generalize hce : compEnvC scope (cellsFrom (s3.heap.objs.size + 1) scope.names (cloFrom X.env.cells scope.names [])) s3.heap.objs.size X.env = ce at I4 pg pe ⊢
  have cL : ce.locals = s3.heap.objs.size := by subst hce; rfl
  generalize hH3 : upd H1 D (.lst []) = H3 at I3 I4 pg pe w0 f3 P3
  generalize hs4 : ({ s3 with heap := pushCells (s3.heap.push { cls := .type "dict", data := .dict #[] }) scope.names } : Shared) = s4 at I4 ⊢
  have k4 : ∀ b o, s3.heap.get? b = some o → s4.heap.get? b = some o := fun b o e => by
    rw [← hs4]
    exact pushCells_keeps _ _ _ _ (Heap.get?_push_of_some _ e)
  have st4 : s4.heap.IsListIter it a 0 := st3.at fun o e => k4 _ _ e
  have J4 : Inv (X.blk s3 H3 scope ce [it]) [p] (wipe σ (own.map (·.2))) H3 s4 := I4.pins_of fun q hq => by
    have eq : q = p := List.mem_singleton.mp hq
    subst eq
    refine ⟨k4 _ _ P3.1, P3.2.1, ?_, fun z => ?_, P3.2.2.2.2⟩
    · show q.1 ≠ ce.locals
      rw [cL]
      exact Nat.ne_of_lt (Heap.lt_size P3.1)
    · exact (List.mem_cons.mp (I3.stkSub q.1 z)).elim P3.2.2.1 P3.2.2.2.1
  have stat : ∀ {σ' : L2.St} {H' : Hp} {s' : Shared}, Inv (X.blk s3 H3 scope ce [it]) [p] σ' H' s' → H' it = none → FpOk (X.blk s3 H3 scope ce [it]) [p] H' it := fun {σ' H' s'} I' hn =>
    ⟨hn, (I'.ok.exf it List.mem_cons_self).1, I'.ok.exfs it List.mem_cons_self, .inl List.mem_cons_self, fun x c e => (I'.ok.exf it List.mem_cons_self).2 x c e, fun q hq => by
      have eq : q = p := by simpa using (show q ∈ ([] : List (Addr × Obj)) ++ [p] from hq)
      rw [eq]
      exact hx1⟩
  have loop : codeAny (model X.prog X.w) X.A (.compLoop (.ListComp elt [⟨tg, iter, [], 0⟩] scope pos) 0 (.ref it) (.ref D) ce) (compPost (model X.prog X.w) X.A X.xe none (EP X pins σ Q) (.ref D) s3.heap.objs.size) s4 := by
    refine compLoop_any (fun n s' => ∃ i H', i + n = xs.length ∧ Inv (X.blk s3 H3 scope ce [it]) [p] (wipe σ (own.map (·.2))) H' s' ∧ s'.heap.IsListIter it a i ∧ H' it = none ∧ W i H') ?_ xs.length ⟨0, H3, Nat.zero_add _, J4, st4, (f3 it List.mem_cons_self).1.1, w0⟩
    rintro n s5 ⟨i, H5, ein, I5, st5, n5, w5⟩
    have P5 := I5.pin p (by simp)
    have hot5 : HotAt X.A p.1 s5.heap := ⟨hh, p.2, v1, P5.1, e1, c1⟩
    have q5 : SqL X.K H5 a xs := wl i H5 w5
    cases n with
    | zero =>
      refine list_done_hot I5 hot5 q5 (by omega) st5 (stat I5 n5) hx1 fun s6 I6 => ?_
      have ei : i = xs.length := by omega
      rw [ei] at w5
      have I7 : Inv X pins σ H5 s6 := I3.call' (ch := [it]) I6.os I6.base I6.hok I6.bare fun b hb => ⟨(f3 b hb).1.2.2.2.1, (f3 b hb).1.2.1, (f3 b hb).1.2.2.2.2.1, (f3 b hb).1.2.2.2.2.2⟩
      have nC : H5 s3.heap.objs.size = none := by
        have z : H5 ce.locals = none := I6.free
        rw [cL] at z
        exact z
      obtain ⟨m, hn, _⟩ := I6.loc
      have hn : s6.heap.Ns ce.locals m := hn
      rw [cL] at hn
      refine ⟨m, hn, fun h'' sb => ?_⟩
      obtain ⟨f0, f1, f2, f3, f4, f5⟩ := I3.fpOk (Nat.le_refl _) nC
      exact ⟨.ref D, H5, I7.turned (t' := s6.toks) (fun b o hb e => (sb.2 b hb).trans e) f0 f1 f3 f4 f5, rfl, we H5 w5⟩
    | succ n =>
      have hi : i < xs.length := by omega
      have hx : xs[i]? = some xs[i] := List.getElem?_eq_getElem hi
      refine list_item_any I5 q5 hx st5 (stat I5 n5) fun u s6 ru I6 st6 => ?_
      obtain ⟨oi, ei, ci, di⟩ := id st6
      refine go_of ei ci di (by decide) ?_
      have I6' : Inv (X.blk s3 H3 scope ce [it]) ([p] ++ [(it, oi)]) (wipe σ (own.map (·.2))) H5 s6 := I6.pins_of fun q hq => by
        rcases List.mem_append.mp hq with z | z
        · exact I6.pin q (List.mem_append_right _ z)
        · have eq : q = (it, oi) := List.mem_singleton.mp z
          subst eq
          obtain ⟨g0, g1, g2, _⟩ := stat I6 n5
          exact ⟨ei, g0, g1, g2, fun v z => by rw [di] at z; cases z⟩
      refine thnF (pg.run _ s6 _ H5 xs[i] u _ I6' ru (wt i _ H5 hx w5)) fun _ s8 ⟨σ8, H8, I8, hw8, q8⟩ => ?_
      refine wpAny_tests_nil ?_
      rw [if_pos rfl]
      refine thnF (pe.run _ s8 σ8 H8 _ I8 q8) fun z s10 ⟨yv, H10, I10, r10, acc, hD10, hz10, nx⟩ => ?_
      refine app_ok (X := X.blk s3 H3 scope ce [it]) I10 hD10 hz10 r10 fun s11 I11 => ?_
      have PI := I11.pin (it, oi) (by simp)
      have hl : (wipe σ (own.map (·.2))).length = σ8.length := by rw [← hw8, wipe_length]
      refine ⟨n, Nat.lt_succ_self _, i + 1, _, by omega, (I11.pins_of (pins' := [p]) fun q hq => I11.pin q (by simp at hq ⊢; exact .inl hq)).weak hl (fun j v e => ?_), ⟨oi, PI.1, ci, di⟩, PI.2.1, nx⟩
      rw [← hw8] at e
      exact (wipe_some e).1
  exact codeAny_compStart_list loop (wpAny_pyIter_listiter st4 loop)
end
end Tw

set_option maxHeartbeats 4000000
namespace Tw
open PySem PySem.Spec PyProof.Rows L2 LamX
/-! ### what stays from one heap to a later one: all but tables of code objects, which stay tables; an instance's field "seen" may change -/
def sn (n : Int) : List (Str × V) := [("seen", .int n)]
def Sn (lo : Prop) (o o' : HO) : Prop := o' = o ∨ lo ∧ ∃ (C dx : Addr) (fs : List (Str × V)) (n n' : Int), o = .ins C dx (fs ++ sn n) ∧ o' = .ins C dx (fs ++ sn n')
theorem Sn.refl {lo : Prop} {o : HO} : Sn lo o o := .inl rfl
theorem Sn.trans {lo : Prop} {o p q : HO} (a : Sn lo o p) (b : Sn lo p q) : Sn lo o q := by
  rcases a with rfl | ⟨hl, C, dx, fs, n, n1, e1, e2⟩
  · exact b
  · rcases b with rfl | ⟨_, C2, dx2, fs2, n2, n3, e3, e4⟩
    · exact .inr ⟨hl, C, dx, fs, n, n1, e1, e2⟩
    · rw [e2] at e3
      injection e3 with h1 h2 h3
      have h4 := congrArg List.dropLast h3
      unfold sn at h4
      rw [List.dropLast_concat, List.dropLast_concat] at h4
      subst h1 h2 h4
      exact .inr ⟨hl, C, dx, fs, n, n3, e1, e4⟩
/-- such an object stays as it is -/
def Fix (o : HO) : Prop := ∀ C dx fs, o ≠ .ins C dx fs
theorem Sn.fix {lo : Prop} {o o' : HO} (h : Sn lo o o') (f : Fix o) : o' = o := by
  rcases h with h | ⟨_, C, dx, fs, n, n', h, _⟩
  · exact h
  · exact absurd h (f _ _ _)
theorem Sn.tbl {lo : Prop} {o o' : HO} (h : Sn lo o o') (f : ∀ ps, o ≠ .tbl ps) : ∀ ps, o' ≠ .tbl ps := by
  rcases h with h | ⟨_, C, dx, fs, n, n', _, h⟩
  · rw [h]
    exact f
  · rw [h]
    exact fun ps e => nomatch e
structure Xg (lo : Prop) (T : List (Addr × Str)) (H H' : Hp) : Prop where
  st : ∀ b o, H b = some o → (∀ ps, o ≠ .tbl ps) → ∃ o', H' b = some o' ∧ Sn lo o o'
  tb : Tabs T H → Tabs T H'
/-- loose: looks may be counted; strict: all stays -/
abbrev Xt (T : List (Addr × Str)) (H H' : Hp) : Prop := Xg True T H H'
abbrev Xs (T : List (Addr × Str)) (H H' : Hp) : Prop := Xg False T H H'
section
variable {lo : Prop} {T : List (Addr × Str)} {H H1 H2 : Hp} {K : PySem.W.Frag} {a p : Addr} {o : HO} {xs : List V}
theorem Xg.ex (e : ExtN H H1) (t : Tabs T H1) : Xg lo T H H1 := ⟨fun b o h n => ⟨o, e b o h n, .refl⟩, fun _ => t⟩
theorem Xg.refl : Xg lo T H H := ⟨fun _ o h _ => ⟨o, h, .refl⟩, id⟩
theorem Xg.trans (a : Xg lo T H H1) (b : Xg lo T H1 H2) : Xg lo T H H2 := ⟨fun c o h n => by
  obtain ⟨o1, h1, s1⟩ := a.st c o h n
  obtain ⟨o2, h2, s2⟩ := b.st c o1 h1 (s1.tbl n)
  exact ⟨o2, h2, s1.trans s2⟩, fun t => b.tb (a.tb t)⟩
theorem Xg.of (e : ∀ b o, H b = some o → H1 b = some o) : Xg lo T H H1 := ⟨fun b o h _ => ⟨o, e b o h, .refl⟩, fun t => t.ext e⟩
theorem Xg.new (h : H p = none) : Xg lo T H (upd H p o) := .of fun b u e => by rw [upd_ne (ne_of_none e h)]; exact e
/-- no table, no code object stands at p -/
def Pl (H : Hp) (p : Addr) : Prop := ∀ u, H p = some u → (∀ ps, u ≠ .tbl ps) ∧ ∀ f, u ≠ .ext f
theorem Pl.lst (h : H p = some (.lst xs)) : Pl H p := fun u e => by
  rw [h] at e
  cases e
  exact ⟨fun ps z => (nomatch z), fun f z => (nomatch z)⟩
theorem Pl.ins {C dx : Addr} {fs : List (Str × V)} (h : H p = some (.ins C dx fs)) : Pl H p := fun u e => by
  rw [h] at e
  cases e
  exact ⟨fun ps z => (nomatch z), fun f z => (nomatch z)⟩
theorem tabs_upd {H' : Hp} (t : Tabs T H') (h : Pl H' p) : Tabs T (upd H' p o) := fun q hq => by
  obtain ⟨ps, h1, h2, h3⟩ := t q hq
  refine ⟨ps, by rw [upd_ne fun z => by rw [z] at h1; exact (h _ h1).1 _ rfl]; exact h1, h2, fun pos cv hc => ?_⟩
  obtain ⟨c, e1, e2⟩ := h3 pos cv hc
  exact ⟨c, e1, by rw [upd_ne fun z => by rw [z] at e2; exact (h _ e2).2 _ rfl]; exact e2⟩
/-- no proper object of H stands at p -/
def Nw (H : Hp) (p : Addr) : Prop := ∀ o, H p = some o → ∃ ps, o = .tbl ps
theorem Nw.of (h : H p = none) : Nw H p := fun o e => by
  rw [h] at e
  cases e
theorem Xg.nw (e : Xg lo T H H1) (h : Nw H1 p) : Nw H p := fun o ho => by
  cases o with
  | tbl ps => exact ⟨ps, rfl⟩
  | _ =>
    obtain ⟨o', h1, s⟩ := e.st p _ ho fun ps z => by cases z
    obtain ⟨ps, h2⟩ := h _ h1
    exact absurd h2 (s.tbl (fun ps z => by cases z) ps)
theorem Nw.ne (h : Nw H p) (ha : H a = some o) (ho : ∀ ps, o ≠ .tbl ps) : a ≠ p := fun z => by
  rw [z] at ha
  obtain ⟨ps, e⟩ := h _ ha
  exact ho ps e
theorem Nw.nl (h : Nw H p) (ha : H a = some (.lst xs)) : a ≠ p := h.ne ha fun ps z => by cases z
/-- an object that H does not know is written in a later heap -/
theorem Xg.put {H' : Hp} (e : Xg lo T H H') (h : Nw H p) (hl : Pl H' p) : Xg lo T H (upd H' p o) :=
  ⟨fun b u hb n => by rw [upd_ne (h.ne hb n)]; exact e.st b u hb n, fun t => tabs_upd (e.tb t) hl⟩
theorem Xg.mut {H' : Hp} {ys : List V} (e : Xg lo T H H') (h : Nw H p) (hl : H' p = some (.lst ys)) : Xg lo T H (upd H' p (.lst xs)) := e.put h (.lst hl)
/-- an instance's last field "seen" changes -/
theorem Xg.see (hlo : lo) {C dx : Addr} {fs : List (Str × V)} {n n' : Int} (h : H p = some (.ins C dx (fs ++ sn n))) : Xg lo T H (upd H p (.ins C dx (fs ++ sn n'))) :=
  ⟨fun b u hb _ => by
    by_cases e : b = p
    · subst e
      rw [h] at hb
      exact ⟨_, upd_same .., .inr ⟨hlo, C, dx, fs, n, n', (Option.some.inj hb).symm, rfl⟩⟩
    · exact ⟨u, by rw [upd_ne e]; exact hb, .refl⟩, fun t => tabs_upd t (.ins h)⟩
theorem Xg.fix (e : Xg lo T H H1) (h : H a = some o) (f : Fix o) (n : ∀ ps, o ≠ .tbl ps) : H1 a = some o := by
  obtain ⟨o', h1, s⟩ := e.st a o h n
  rw [h1, s.fix f]
theorem Xg.lst (e : Xg lo T H H1) (h : H a = some (.lst xs)) : H1 a = some (.lst xs) := e.fix h (fun _ _ _ z => by cases z) fun ps z => by cases z
theorem Xg.tup (e : Xg lo T H H1) (h : H a = some (.tup xs)) : H1 a = some (.tup xs) := e.fix h (fun _ _ _ z => by cases z) fun ps z => by cases z
theorem Xg.ins {C dx : Addr} {fs : List (Str × V)} (e : Xg lo T H H1) (h : H a = some (.ins C dx fs)) (hs : ∀ fs' n, fs ≠ fs' ++ sn n) : H1 a = some (.ins C dx fs) := by
  obtain ⟨o', h1, s⟩ := e.st a _ h fun ps z => by cases z
  rcases s with s | ⟨_, C2, dx2, fs2, n, n', s1, s2⟩
  · rw [h1, s]
  · injection s1 with _ _ s1
    exact absurd s1 (hs _ _)
theorem Xg.insSeen {C dx : Addr} {fs : List (Str × V)} {n : Int} (e : Xg lo T H H1) (h : H a = some (.ins C dx (fs ++ sn n))) : ∃ n', H1 a = some (.ins C dx (fs ++ sn n')) := by
  obtain ⟨o', h1, s⟩ := e.st a _ h fun ps z => by cases z
  rcases s with s | ⟨_, C2, dx2, fs2, n2, n', s1, s2⟩
  · exact ⟨n, by rw [h1, s]⟩
  · injection s1 with e1 e2 s1
    have h4 := congrArg List.dropLast s1
    unfold sn at h4
    rw [List.dropLast_concat, List.dropLast_concat] at h4
    subst e1 e2 h4
    exact ⟨n', by rw [h1, s2]⟩
theorem Xg.seq (e : Xg lo T H H1) (h : SqL K H a xs) : SqL K H1 a xs := by
  rcases h with (h | ⟨o, h⟩) | h
  · exact .inl (.inl (e.lst h))
  · exact .inl (.inr ⟨o, e.fix h (fun _ _ _ z => by cases z) fun ps z => by cases z⟩)
  · exact .inr h
theorem Xg.seqT (e : Xg lo T H H1) (h : SqT K H a xs) : SqT K H1 a xs := by
  rcases h with (h | ⟨o, h⟩) | h
  · exact .inl (.inl (e.tup h))
  · exact .inl (.inr ⟨o, e.fix h (fun _ _ _ z => by cases z) fun ps z => by cases z⟩)
  · exact .inr h
theorem Xg.up (e : Xs T H H1) : Xt T H H1 := ⟨fun b o h n => by
  obtain ⟨o', h1, s⟩ := e.st b o h n
  rcases s with s | ⟨z, _⟩
  · exact ⟨o', h1, .inl s⟩
  · exact z.elim, e.tb⟩
/-- strict: all but tables stays -/
theorem Xg.same (e : Xs T H H1) (h : H a = some o) (n : ∀ ps, o ≠ .tbl ps) : H1 a = some o := by
  obtain ⟨o', h1, s⟩ := e.st a o h n
  rcases s with s | ⟨z, _⟩
  · rw [h1, s]
  · exact z.elim
theorem Xt.new (h : H p = none) : Xt T H (upd H p o) := Xg.new h
theorem Xt.ex (e : ExtN H H1) (t : Tabs T H1) : Xt T H H1 := Xg.ex e t
theorem Xt.refl : Xt T H H := Xg.refl
theorem Xt.trans (a : Xt T H H1) (b : Xt T H1 H2) : Xt T H H2 := Xg.trans a b
theorem Xt.lst (e : Xt T H H1) (h : H a = some (.lst xs)) : H1 a = some (.lst xs) := Xg.lst e h
theorem Xt.seq (e : Xt T H H1) (h : SqL K H a xs) : SqL K H1 a xs := Xg.seq e h
theorem Xs.new (h : H p = none) : Xs T H (upd H p o) := Xg.new h
theorem Xs.refl : Xs T H H := Xg.refl
end
/-! ### a def called with the handled exception -/
structure FnHp (P : Program) (w : World) (K : PySem.W.Frag) (mg : Str → Option Value) (base : Heap) (k : Nat) (f : Addr) (fd : FuncData) (ps : List Str) (sp : Addr × Obj → List V → Hp → VK → Prop) : Prop where
  len : ∀ p vs H Q, sp p vs H Q → vs.length = ps.length
  run : ∀ (A : Around) (outer : List Env) (s : Shared) (H : Hp) (args : Args) (us : List Value) (vs : List V) (Q : VK) (p : Addr × Obj), L2H.RoomH k A → L2H.Hot1 A p → L2H.PinOk outer H s p → Env0 P w K mg base A outer s H → BindsTo s fd args (ps.zip us) → Vals vs us → sp p vs H Q →
    codeAny (model P w) A (.call (.ref f) args) (CR CX0 outer P w H s Q E0) s
section
variable {P : Program} {w : World} {K : PySem.W.Frag} {mg : Str → Option Value} {base : Heap}
theorem fn_hp {k : Nat} {x qual : Str} {params : Arguments} {body : List Stmt} {scope : Scope} {f : Addr} {fd : FuncData} {N ps : List Str} {sp : Addr × Obj → List V → Hp → VK → Prop} (F : FunD K x qual params body scope [] [] f fd) (S : FnScope N ps scope)
    (len : ∀ p vs H Q, sp p vs H Q → vs.length = ps.length)
    (hbody : ∀ (cdv : Value) (A : Around) (outer : List Env) (s : Shared) (H : Hp) (vs : List V) (Q : VK) (p : Addr × Obj), L2H.Hot1 A p → L2H.RoomH k (A.deeper (envOfC qual scope s.heap.objs.size f cdv)) → sp p vs H Q →
      ∃ t, PSs (L2H.cxH CX0 P w K mg base N qual scope f cdv A outer s H E0 p) body t ∧ t { nx := fun _ H' => Q .non H', rt := Q } (L2.start N vs) H) :
    FnHp P w K mg base (k + 1) f fd ps sp := by
  obtain ⟨oc, od, dV, kV, doc, pm, an, cdv, ct, osl, rfl, lk, hcd, _, _⟩ := F.ex
  refine ⟨len, fun A outer s H args us vs Q p hr hot hpin e0 hb r hsp => ?_⟩
  have hl := len _ _ _ _ hsp
  have KX : K.In s.heap := e0.mod.kin.keeps fun b o e => (e0.bs b o e).1
  have lim : s.heap.NoLimit := e0.mod.nolimit.keeps fun b o e => (e0.bs b o e).1
  refine codeAny_call_function hr.depth (KX _ _ lk) rfl S.co S.gen rfl (PySem.W.codeRec_of KX hcd) (hb _ _ _ _ ?_)
  refine wpAny_newFunctionEnv_cells S.kind (fun ⟨n, v⟩ hy => ?_) fun env he s1 x => ?_
  · exact (S.par n (List.of_mem_zip hy).1).imp id fun q => ⟨q, PySem.W.cellsFrom_some _ _ _ (.inl q)⟩
  subst he
  refine ⟨lim.keeps x.toInCall.keep, codeAny_func ?_⟩
  obtain ⟨t, ht, hq⟩ := hbody cdv A outer s H vs Q p hot (hr.deeper _) hsp
  refine wpAny_mono (ht.run [] s1 (L2.start N vs) H _ (L2H.inv_startH S hpin e0 hl r x) hq) (fun fl s' hs => ?_) fun e s' hs => hs
  cases fl with
  | ret u =>
    obtain ⟨v, σ', H', J, rv, q⟩ := hs
    exact ⟨v, H', J.os, J.bare, J.base, J.hok, rv, q⟩
  | next =>
    obtain ⟨σ', H', J, q⟩ := hs
    exact ⟨V.non, H', J.os, J.bare, J.base, J.hok, rfl, q⟩
  | brk =>
    obtain ⟨_, _, _, q⟩ := hs
    exact False.elim q
  | cont =>
    obtain ⟨_, _, _, q⟩ := hs
    exact False.elim q
end
section
variable {X : Cx} {k : Nat} {f : Addr} {fd : FuncData} {ps : List Str} {sp : Addr × Obj → List V → Hp → VK → Prop} {x : Str} {q pos : Pos} {e : Expr} {es : List Expr} {t : TA}
/-- its call, p the handled exception that the context bears -/
theorem pe_callHp {p : Addr × Obj} (F : FnHp X.prog X.w X.K X.mg X.base k f fd ps sp) (hr : L2H.RoomH k X.A) (hot : L2H.Hot1 X.A p) (hp : p ∈ X.pn) (hg : Gl X x) (hm : X.mg x = some (.ref f)) (hk : PySem.W.keepIn X.K (.ref f) = true) (hb : Binds X.K fd ps [])
    (ha : PA X (e :: es) t) (hdb : (x == ("__debug__" : Str)) = false) (he : starEach (e :: es) X.env = (false, eval e X.env) :: starEach es X.env := by rfl) (hpl : (backTo pos (starEach es X.env)).any (·.1) = false := by rfl) :
    PE X (.Call (.Name x q) (e :: es) [] pos) (fun σ H Q => t σ H fun vs H1 => sp p vs H1 Q) := by
  refine ⟨fun pins s σ H Q I h => ?_⟩
  refine wpAny_Call_Name_kw (ld_glob I hg hm ?_ hdb)
  refine PySem.W.callWith_K (h₀ := X.base) I.ok.mod.kin hk (thn (ha.run pos pins s σ H _ I h) fun us s1 ⟨vs, H1, I1, r, h2⟩ => ⟨I1.kIn, ?_⟩) he hpl
  have hl : us.length = ps.length := by rw [← r.length]; exact F.len _ _ _ _ h2
  have b := hb s1 us I1.kIn (by rw [List.append_nil]; exact hl)
  rw [List.append_nil] at b
  have P1 := I1.pin p (List.mem_append_left _ hp)
  have hpin : L2H.PinOk X.stack H1 s1 p := ⟨P1.1, P1.2.1, fun hm => (List.mem_cons.mp (I1.stkSub p.1 hm)).elim P1.2.2.1 P1.2.2.2.1, P1.2.2.2.2⟩
  refine wpAny_call (codeAny_mono (F.run X.A X.stack s1 H1 ⟨us, []⟩ us vs Q p hr hot hpin I1.env0 b r h2) fun r s' hq => ?_)
  cases r with
  | error e => exact hq.elim
  | ok fl =>
    cases fl with
    | ret u => exact I1.after hq
    | next => exact hq.elim
    | brk => exact hq.elim
    | cont => exact hq.elim
/-- isinstance(e, c), e a pinned exception -/
theorem call_isP {a D : Addr} {oe : Obj} (C : ExcC X.K D) (hp : (a, oe) ∈ X.pn) (hz : Zc (.ref D) none oe) (hf : ∃ vs, oe.data = .fields vs) : CallR X (.builtin "isinstance") (rIsE X.K D a) := by
  intro pins s σ H xs us Q I r h
  obtain ⟨c, cv, b, rfl, hcv, e, q⟩ := h
  cases r with
  | cons rx rr =>
    cases rr with
    | cons rt rr =>
      cases rr
      cases rx
      have ec := hcv _ rt
      subst ec
      obtain ⟨hget, _⟩ := I.pin (a, oe) (List.mem_append_left _ hp)
      obtain ⟨vs, hv⟩ := hf
      obtain ⟨oc, od, oda, osl⟩ := oe
      obtain ⟨h1, h2⟩ := hz
      dsimp only at h1 h2 hv
      subst h1 h2 hv
      exact PySem.W.kia_one (PySem.W.handS_kitx_exc C.hg C.hk C.hs C.hd C.ha C.hn C.ht C.hm) I.kIn (H := fun h => PySem.W.InstAt h a _ D none) ⟨hget, rfl, rfl, trivial⟩ e (fun z => nomatch z) fun tk => ⟨.bl b, H, I.kept (t' := tk) fun _ _ z => z, rfl, q⟩
end
end Tw

set_option maxHeartbeats 4000000
namespace Tw
open PySem PySem.Spec PyProof.Rows L2 LamX
/-! ### what the built-in names stand for -/
section
theorem b_len : bootBuiltins "len" = some (.builtin "len") := by decide +kernel
theorem b_max : bootBuiltins "max" = some (.builtin "max") := by decide +kernel
theorem b_min : bootBuiltins "min" = some (.builtin "min") := by decide +kernel
theorem b_sum : bootBuiltins "sum" = some (.builtin "sum") := by decide +kernel
theorem b_all : bootBuiltins "all" = some (.builtin "all") := by decide +kernel
theorem b_ord : bootBuiltins "ord" = some (.builtin "ord") := by decide +kernel
theorem b_sorted : bootBuiltins "sorted" = some (.builtin "sorted") := by decide +kernel
theorem b_isinstance : bootBuiltins "isinstance" = some (.builtin "isinstance") := by decide +kernel
theorem b_int : bootBuiltins "int" = some (.type "int") := by decide +kernel
theorem b_str : bootBuiltins "str" = some (.type "str") := by decide +kernel
theorem b_bool : bootBuiltins "bool" = some (.type "bool") := by decide +kernel
theorem b_list : bootBuiltins "list" = some (.type "list") := by decide +kernel
theorem b_tuple : bootBuiltins "tuple" = some (.type "tuple") := by decide +kernel
theorem b_set : bootBuiltins "set" = some (.type "set") := by decide +kernel
theorem b_ValueError : bootBuiltins "ValueError" = some (.type "ValueError") := by decide +kernel
end
/-! ### defs by names -/
/-- the function object of the def that stands at a place -/
def fdOf (K : PySem.W.Frag) (at_ : He.Defn) : FuncData := match K.lookup (He.fAd K at_) with
  | some ⟨_, _, .func fd, _⟩ => fd
  | _ => default
theorem fdOf_of {K : PySem.W.Frag} {at_ : He.Defn} {x q : Str} {ps : Arguments} {b : List Stmt} {sc : Scope} {d : List V} {k : List (Str × V)} {fd : FuncData} (F : FunD K x q ps b sc d k (He.fAd K at_) fd) : FunD K x q ps b sc d k (He.fAd K at_) (fdOf K at_) := by
  have e : fdOf K at_ = fd := by
    obtain ⟨oc, od, dV, kV, doc, pm, an, cdv, ct, osl, e, lk, _⟩ := F.ex
    unfold fdOf
    rw [lk]
  rw [e]
  exact F
abbrev OkN (P : Program) (w : World) (K : PySem.W.Frag) (mg : Str → Option Value) (base : Heap) (at_ : He.Defn) (k : Nat) (ps : List Str) (sp : Sp) : Prop := FnOk P w K mg base (L2N.CX P w) k (He.fAd K at_) (fdOf K at_) ps sp
/-! ### exceptions -/
structure ExcF (K : PySem.W.Frag) (mg : Str → Option Value) (x : Str) : Prop where
  g : mg x = some (.ref (He.ga K x))
  f : PySem.W.excIn K (He.ga K x) He.veBase "ValueError.__new__" = true ∧ PySem.W.keepIn K (.ref (He.ga K x)) = true ∧ PySem.W.subIn K (.ref (He.ga K x)) (.type "BaseException") = some true ∧ PySem.W.typeIn K (.ref (He.ga K x)) = some (.type "type")
section
variable {P : Program} {w : World} {K : PySem.W.Frag} {mg : Str → Option Value} {base : Heap} {N : List Str} {qual : Str} {scope : Scope} {f : Addr} {cd : Value} {A : Around} {outer : List Env} {s : Shared} {H : Hp} {E : XK}
/-- in a def's body: what a callee lets out leaves -/
theorem psE (σ : L2.St) : PassesAt (L2N.CX P w) (cxOf (L2N.CX P w) P w K mg base N qual scope f cd A outer s H E) σ ((fun _ => E) σ) :=
  L2N.passAt (W := fun cls d _ H' => E cls d H') (L2N.takes_of rfl rfl rfl rfl) σ
/-- raise C('..') in a def's body -/
theorem ps_rz {x m : Str} {j : Nat} {p p2 pos pos2 : Pos} (C : ExcF K mg x) (hg : scope.names.lookup x = some .globalImplicit) (hdb : (x == ("__debug__" : Str)) = false) :
    PS (cxOf (L2N.CX P w) P w K mg base N qual scope f cd A outer s H E) (.Raise (some (.Call (.Name x p) [.Constant (.str m) j p2] [] pos)) none pos2) (fun _ _ H' => E (.ref (He.ga K x)) none H') :=
  L2N.ps_raise (W := fun cls d _ H' => E cls d H') rfl (L2N.takes_of rfl rfl rfl rfl) (L2N.pmk_own (X := cxOf (L2N.CX P w) P w K mg base N qual scope f cd A outer s H E) PySem.F.excBase_ValueError C.f.1 C.g C.f.2.1 (raises_own C.f.2.2.1 C.f.2.2.2) hg hdb)
end
section
variable {X : Cx} {A : Around} {outer : List Env} {s : Shared} {H : Hp} {E : XK} {scope : Scope} {f c' : Addr}
/-- in a lambda's body -/
theorem psL (σ : L2.St) : PassesAt (L2N.CX X.prog X.w) (lamN X A outer s H E scope f c') σ ((fun _ => E) σ) :=
  L2N.passAt (W := fun cls d _ H' => E cls d H') lamN_takes σ
/-- in a block, nothing is let out -/
theorem ps0 {X : Cx} {P : Program} {w : World} (σ : L2.St) : PassesAt (L2N.CX P w) X σ ((fun _ => E0) σ) := fun _ _ _ _ _ _ h => by
  obtain ⟨_, _, _, _, _, _, _, _, _, _, _, _, z⟩ := h
  exact z.elim
theorem psP0 {X : Cx} {P : Program} {w : World} : Passes (L2N.CX P w) X E0 := fun pins σ H s e s' I c => ps0 σ pins H s e s' I c
end
section
variable {P : Program} {w : World} {K : PySem.W.Frag} {mg : Str → Option Value} {base : Heap} {N : List Str} {qual : Str} {scope : Scope} {f : Addr} {cd : Value} {A : Around} {outer : List Env} {s : Shared} {H : Hp} {E : XK}
theorem psP : Passes (L2N.CX P w) (cxOf (L2N.CX P w) P w K mg base N qual scope f cd A outer s H E) E := fun pins σ H s e s' I c => psE σ pins H s e s' I c
end
/-! ### the seven classes -/
def seven : List Str := ["BadNumber", "BadBits", "BadPlace", "BadText", "BadCode", "BadTree", "TooMany"]
def excCB (K : PySem.W.Frag) (C : Addr) : Bool :=
  decide (PySem.W.findIn K (.ref C) "__getattribute__" = some (some (.builtin "BaseException.__getattribute__"))) && (decide (PySem.W.findIn K (.ref C) "__getattr__" = some none) && (decide (PySem.W.subIn K (.ref C) (.type "BaseException") = some true) &&
  (PySem.W.hasDictIn K C && (decide (PySem.W.findIn K (.ref C) "__class__" = some (some (.builtin "object.__class__"))) && (decide (PySem.W.specialIn K (.builtin "object.__class__") "__get__" = some (some (.builtin "getset_descriptor.__get__"))) &&
  (decide (PySem.W.takesIn K (.builtin "object.__class__") = some true) && decide (PySem.W.mroIn K C (.type "object") = some true)))))))
theorem excCB_ok {K : PySem.W.Frag} {C : Addr} (h : excCB K C = true) : ExcC K C := by
  unfold excCB at h
  simp only [Bool.and_eq_true, decide_eq_true_eq] at h
  obtain ⟨h1, h2, h3, h4, h5, h6, h7, h8⟩ := h
  exact ⟨h1, h2, h3, h4, h5, h6, h7, h8⟩
/-- the seven, told apart -/
def exB (K : PySem.W.Frag) : Bool := seven.all fun x => excCB K (He.ga K x) && (decide (PySem.W.kitOne K (.ref (He.ga K x)) (.type "ValueError") = some true) && (decide (PySem.W.exmOne K (.ref (He.ga K x)) (.ref (He.ga K "TerseError")) = some true) && seven.all fun y => decide (PySem.W.kitOne K (.ref (He.ga K x)) (.ref (He.ga K y)) = some (decide (x = y)))))
structure Bad (K : PySem.W.Frag) (x : Str) : Prop where
  c : ExcC K (He.ga K x)
  v : PySem.W.kitOne K (.ref (He.ga K x)) (.type "ValueError") = some true
  t : PySem.W.exmOne K (.ref (He.ga K x)) (.ref (He.ga K "TerseError")) = some true
  k : ∀ y ∈ seven, PySem.W.kitOne K (.ref (He.ga K x)) (.ref (He.ga K y)) = some (decide (x = y))
theorem bad_of {K : PySem.W.Frag} {x : Str} (h : exB K = true) (hx : x ∈ seven) : Bad K x := by
  have h1 := List.all_eq_true.mp h x hx
  simp only [Bool.and_eq_true, decide_eq_true_eq] at h1
  obtain ⟨h1, h2, h3, h4⟩ := h1
  exact ⟨excCB_ok h1, h2, h3, fun y hy => of_decide_eq_true (List.all_eq_true.mp h4 y hy)⟩
end Tw

set_option maxHeartbeats 4000000
namespace Tw
open PySem PySem.Spec PyProof.Rows L2 LamX
/-! ### told(lambda: ..) -/
/-- what is wished of a refusal: its class's name is told -/
def EW (K : PySem.W.Frag) (T : List (Addr × Str)) (Q : VK) : XK := fun cls d H => ∃ x ∈ seven, cls = .ref (He.ga K x) ∧ d = none ∧ ∀ H', Xt T H H' → Q (.str x) H'
/-- the word of the exception -/
def spWord (K : PySem.W.Frag) (T : List (Addr × Str)) : Addr × Obj → List V → Hp → VK → Prop := fun p vs H Q => ∃ x ∈ seven, vs = [.ref p.1] ∧ Zc (.ref (He.ga K x)) none p.2 ∧ (∃ us, p.2.data = .fields us) ∧ ∀ H', Xt T H H' → Q (.str x) H'
/-- the context of told's frame -/
abbrev toldX (X : Cx) (Ng : List Str) (sg : Scope) (g : Addr) (cdg : Value) (s : Shared) (H : Hp) : Cx := cxOf CX0 X.prog X.w X.K X.mg X.base Ng "_law_told" sg g cdg X.A X.stack s H E0
section
variable {X : Cx}
theorem told_gen {Tt : List (Addr × Str)} {g gW c Pt : Addr} {k : Nat} {pg : Arguments} {sg : Scope} {fdT fdW : FuncData} {params : Arguments} {body : Expr} {scope : Scope} {t : XK → TE} {p lpos pos : Pos}
    {p1 p2 p3 p4 p5 p6 p7 p8 p9 p10 : Pos} (hg : Gl X "_law_told") (hm : X.mg "_law_told" = some (.ref g))
    (FT : FunD X.K "_law_told" "_law_told" pg [.Try [.Return (some (.Call (.Name "_law_deed" p1) [] [] p2)) p3] [.ExceptHandler (some (.Name "TerseError" p4)) (some "_law_e") [.Return (some (.Call (.Name "_law_word" p5) [.Name "_law_e" p6] [] p7)) p8] p9] [] [] p10] sg [] [] g fdT)
    (BT : Binds X.K fdT ["_law_deed"] []) (ST : FnScope ["_law_deed", "_law_e"] ["_law_deed"] sg) (l1 : sg.names.lookup ("_law_deed" : Str) = some .local) (l2 : sg.names.lookup ("_law_e" : Str) = some .local) (l3 : sg.names.lookup ("TerseError" : Str) = some .globalImplicit) (l4 : sg.names.lookup ("_law_word" : Str) = some .globalImplicit)
    (gE : X.mg "TerseError" = some (.ref (He.ga X.K "TerseError"))) (gW1 : X.mg "_law_word" = some (.ref gW)) (kW : PySem.W.keepIn X.K (.ref gW) = true) (BW : Binds X.K fdW ["_law_e"] []) (FW : FnHp X.prog X.w X.K X.mg X.base 1 gW fdW ["_law_e"] (spWord X.K Tt)) (xB : exB X.K = true)
    (TB : TabB X.base X.mg c Pt) (hcode : X.env.code = .ref c) (hmT : (Pt, X.env.qual ++ "<lambda>") ∈ Tt) (hu : ∀ p ∈ Tt, p.1 = Pt → p.2 = X.env.qual ++ "<lambda>") (hr : Room (k + 4) X.A) (L : LamS X.env.scope scope) (hdef : defaultsOf params X.env = ([], []))
    (hbind : ∀ (q : Str) (cl : List (Str × Addr)) (pm cv ctv : Value), bindArgs (PySem.W.kla_fn "<lambda>" q params body scope cl pm cv ctv) ⟨[], []⟩ = pure [])
    (hbody : ∀ (A : Around) (outer : List Env) (s : Shared) (H : Hp) (E : XK) (f c' : Addr), Room (k + 2) (A.deeper (lamEnv X scope s.heap.objs.size f c')) → PE (lamN X A outer s H E scope f c') body (t E)) :
    PE X (.Call (.Name "_law_told" p) [.Lambda params body scope lpos] [] pos) (fun σ H Q => Tabs Tt H ∧ ∀ H1, ExtN H H1 → Tabs Tt H1 → t (EW X.K Tt Q) σ H1 Q) := by
  refine ⟨fun pins s σ H Q I ⟨hT, h⟩ => ?_⟩
  obtain ⟨oc, od, dV, kV, doc, pm, an, cdv, ct, osl, rfl, lk, hcg, hD, _⟩ := FT.ex
  have edV : dV = .none := by
    rcases hD with ⟨_, e⟩ | ⟨e, _⟩
    · exact e
    · exact absurd rfl e
  refine wpAny_Call_Name_kw (ld_glob I hg hm ?_ (by decide))
  refine PySem.W.callWith_K (h₀ := X.base) I.ok.mod.kin FT.kp ?_ (by rfl) (by rfl)
  show wpAny _ _ (spliced ((false, eval (.Lambda params body scope lpos) X.env) :: backTo pos (starEach [] X.env))) _ _ s
  refine Calls.spliced_cons (lam_make2 I TB hcode hmT hu hT hdef (L.has I.ok) fun f c' pm' ctv H1 s' I1 eN T1 hf hfn hfr hco => ?_)
  refine Calls.spliced_nil ⟨I1.kIn, ?_⟩
  have b := BT s' [.ref f] I1.kIn rfl
  have rc : codeAny (model X.prog X.w) X.A (.call (.ref g) ⟨[.ref f], []⟩) (CR CX0 X.stack X.prog X.w H1 s' Q E0) s' := by
    refine run_ofS (k := k + 3) (N := ["_law_deed", "_law_e"]) (ps := ["_law_deed"]) (us := [.ref f]) (vs := [.ref f]) lk hcg ST hr I1.env0 b (.cons rfl .nil) rfl fun hr' => ?_
    have word : ∀ (a : Addr) (oe : Obj) (cls : Value) (d : Option Addr) (pn : List (Addr × Obj)), L2N.Zn cls d oe → (∃ vs, oe.data = .fields vs) →
        PSs ((toldX X ["_law_deed", "_law_e"] sg g cdv s' H1).suite a ((a, oe) :: pn)) [.Return (some (.Call (.Name "_law_word" p5) [.Name "_law_e" p6] [] p7)) p8]
          (fun D σ H => (∃ σ0 : L2.St, σ = σ0.set 1 (some (.ref a))) ∧ ∃ x ∈ seven, cls = .ref (He.ga X.K x) ∧ d = none ∧ ∀ H', Xt Tt H H' → D.rt (.str x) H') := by
      intro a oe cls d pn hz hfs
      have hot : L2H.Hot1 ((toldX X ["_law_deed", "_law_e"] sg g cdv s' H1).suite a ((a, oe) :: pn)).A (a, oe) := by
        obtain ⟨vs, hv⟩ := hfs
        exact ⟨rfl, vs, hv, hz.2.2 vs hv⟩
      have hp := pss_one (ps_ret (pos := p8) (pe_callHp (X := (toldX X ["_law_deed", "_law_e"] sg g cdv s' H1).suite a ((a, oe) :: pn)) (x := "_law_word") (q := p5) (pos := p7) (p := (a, oe)) FW
        (L2H.RoomH.mono (k := k + 3) ⟨hr'.dp, hr'.un⟩ (by omega)) hot List.mem_cons_self (show sg.names.lookup ("_law_word" : Str) = _ from l4) gW1 kW BW (pa_cons (pe_var (i := 1) (pos := p6) rfl (.inl l2)) pa_nil) (by decide)))
      refine ⟨fun pins s σ H D I ⟨⟨σ0, h1⟩, x, hx, e1, e2, h2⟩ => hp.run pins s σ H D I ?_⟩
      have hl : σ.length = 2 := I.len
      have h1 : σ[1]? = some (some (.ref a)) := by
        rw [h1] at hl ⊢
        rw [List.length_set] at hl
        rw [List.getElem?_set_self (by omega)]
      refine ⟨.ref a, h1, x, hx, rfl, ?_, hfs, h2⟩
      rw [← e1, ← e2]
      exact hz.zc
    refine ⟨_, PSs.nox (pss_one (L2N.ps_try_as (X := (toldX X ["_law_deed", "_law_e"] sg g cdv s' H1).nox) (c := .ref (He.ga X.K "TerseError")) (i := 1) (Wout := fun _ _ _ _ => False)
      (tb := fun W D σ' H' => ∃ Ech : XK, (∀ cls d σ' H', Ech cls d H' → W cls d σ' H') ∧ σ'[0]? = some (some (.ref f)) ∧ H' c' = some (CodeO c' (X.env.qual ++ "<lambda>")) ∧ t Ech σ H' D.rt)
      rfl rfl ST.nd rfl l2 ⟨l3, by decide, .inl gE⟩ (fun _ _ x => by obtain ⟨_, _, _, _, _, _, _, _, _, _, _, _, _, _, _, _, z⟩ := x; exact z.elim) (fun W pn xe tk _ => ?_) word)), ?_⟩
    · refine ⟨fun pins s2 σ2 H2 D I2 ⟨Ech, hW, h1, h2, h3⟩ => ?_⟩
      have hp := act (pn := pn) (xe := xe) (W := W) (E := Ech) (tb := t Ech) (p1 := p1) (p2 := p2) (a := "_law_deed") (i := 0) (Ng := ["_law_deed", "_law_e"]) (CXg := CX0) (Eg := E0) (qg := "_law_told") (sg := sg) (g := g) (cdg := cdv) I1 L hf hfn hfr (hbind _ _ _ _ _) tk hW hr'
        (fun A outer s H hr2 => hbody A outer s H Ech f c' hr2) rfl (.inl l1) (by decide) (by decide)
      exact (pss_one (ps_ret (pos := p3) hp)).run pins s2 σ2 H2 D I2 ⟨h1, h2, h3⟩
    · refine ⟨EW X.K Tt Q, fun cls d σ2 H2 ⟨x, hx, e1, e2, h2⟩ => ?_, rfl, hco, h H1 eN T1⟩
      refine ⟨true, by rw [e1]; exact (bad_of xB hx).t, fun _ a na => ?_, fun z => by cases z⟩
      exact ⟨⟨σ2, rfl⟩, x, hx, e1, e2, h2⟩
  refine wpAny_call (codeAny_mono rc fun r s2 hq => ?_)
  cases r with
  | error e => exact (show False from hq).elim
  | ok fl =>
    cases fl with
    | ret u => exact I1.after hq
    | next => exact False.elim hq
    | brk => exact False.elim hq
    | cont => exact False.elim hq
end
end Tw

set_option maxHeartbeats 4000000
namespace Tw
open PySem PySem.Spec PyProof.Rows L2 LamX
/-! ### comprehensions whose elements change nothing that stood -/
def Yy (y : Nat → V → Prop) : Nat → Hp → V → Hp → Prop := fun i H x H' => H' = H ∧ y i x
def kept (n : Nat) (f : Nat → Bool) (r : Nat → V) : List V := ((List.range n).filter f).map r
theorem kept_yes {n : Nat} {f : Nat → Bool} {r : Nat → V} (h : f n = true) : kept (n + 1) f r = kept n f r ++ [r n] := by
  unfold kept
  rw [List.range_succ, List.filter_append, List.map_append, List.filter_cons, if_pos h]
  rfl
theorem kept_no {n : Nat} {f : Nat → Bool} {r : Nat → V} (h : f n = false) : kept (n + 1) f r = kept n f r := by
  unfold kept
  rw [List.range_succ, List.filter_append, List.map_append, List.filter_cons, if_neg (by rw [h]; decide)]
  exact List.append_nil _
theorem kept_len (n : Nat) (f : Nat → Bool) (r : Nat → V) : (kept n f r).length ≤ n := by
  unfold kept
  rw [List.length_map]
  exact Nat.le_trans (List.length_filter_le _ _) (by rw [List.length_range]; exact Nat.le_refl _)
theorem kept_all (n : Nat) (r : Nat → V) : kept n (fun _ => true) r = (List.range n).map r := by
  unfold kept
  rw [List.filter_eq_self.mpr fun _ _ => rfl]
section
variable {lo : Prop} {T : List (Addr × Str)} {J : It} {n : Nat} {G : Hp → Prop} {y : Nat → V → Prop} {te : TE} {tt : TT} {j : Nat} {σ : L2.St} {H1 : Hp} {D : Addr} {Qd : Hp → Prop} {f : Nat → Bool} {r : Nat → V}
theorem wipe1 (σ : L2.St) (j : Nat) (x : Option V) : wipe ((wipe σ [j]).set j x) [j] = wipe σ [j] := by
  show ((σ.set j none).set j x).set j none = σ.set j none
  rw [List.set_set, List.set_set]
/-- with a test -/
theorem lcFg (w : Walk J n G (Yy y)) (hD : H1 D = none) (hn : n ≤ 1000000) (hG : ∀ H', Xg lo T H1 H' → G H') (f : Nat → Bool) (r : Nat → V)
    (ht : ∀ i x H', i < n → y i x → Xg lo T H1 H' → ∀ Q : Bool → Hp → Prop, (∀ H4, Xg lo T H' H4 → Q (f i) H4) → tt ((wipe σ [j]).set j (some x)) H' Q)
    (he : ∀ i x H', i < n → y i x → f i = true → Xg lo T H1 H' → ∀ Q : VK, (∀ H4, Xg lo T H' H4 → Q (r i) H4) → te ((wipe σ [j]).set j (some x)) H' Q)
    (hd : ∀ H', Xg lo T H1 H' → H' D = some (.lst (kept n f r)) → Qd H') :
    ∃ W : Nat → Nat → Hp → Prop, (∃ m, W 0 m (upd H1 D (.lst []))) ∧ ∀ i m H, W i m H →
      (J.stop i H ∧ Qd H) ∨ (J.go i H ∧ ∃ Nx : Hp → Prop, (∀ H', Nx H' → ∃ m', m' < m ∧ W (i + 1) m' H') ∧ ∀ x H', J.yld i H x H' → gName j x (wipe σ [j]) H' fun σ2 H2 => wipe σ2 [j] = wipe σ [j] ∧ tt σ2 H2 fun b H3 =>
        if b = true then te σ2 H3 fun y H4 => ∃ acc, H4 D = some (.lst acc) ∧ acc.length < sizeLine ∧ Nx (upd H4 D (.lst (acc ++ [y]))) else Nx H3) := by
  have hz : ∀ i, i < n → (kept i f r).length < sizeLine := fun i hi => Nat.lt_of_le_of_lt (Nat.le_trans (kept_len i f r) (Nat.le_trans (Nat.le_of_lt hi) hn)) (by decide)
  refine lc_it w (fun i H => Xg lo T H1 H ∧ H D = some (.lst (kept i f r))) ⟨Xg.new hD, by rw [upd_same]; rfl⟩ (fun i H _ p => hG H p.1) (fun i x H H' hi p hy => ?_) fun H p => hd H p.1 p.2
  obtain ⟨eH, hy⟩ := hy
  subst eH
  refine ⟨wipe1 σ j _, ht i x H' hi hy p.1 _ fun H4 x4 => ?_⟩
  cases hf : f i with
  | true =>
    refine iteT (he i x H4 hi hy hf (p.1.trans x4) _ fun H5 x5 => ?_)
    have e5 := (x4.trans x5).lst p.2
    refine ⟨kept i f r, e5, hz i hi, ((p.1.trans x4).trans x5).mut (.of hD) e5, ?_⟩
    rw [upd_same, kept_yes hf]
  | false =>
    refine iteF ⟨p.1.trans x4, ?_⟩
    rw [kept_no hf]
    exact x4.lst p.2
/-- without one -/
theorem lcPg (w : Walk J n G (Yy y)) (hD : H1 D = none) (hn : n ≤ 1000000) (hG : ∀ H', Xg lo T H1 H' → G H') (r : Nat → V)
    (he : ∀ i x H', i < n → y i x → Xg lo T H1 H' → ∀ Q : VK, (∀ H4, Xg lo T H' H4 → Q (r i) H4) → te ((wipe σ [j]).set j (some x)) H' Q)
    (hd : ∀ H', Xg lo T H1 H' → H' D = some (.lst ((List.range n).map r)) → Qd H') :
    ∃ W : Nat → Nat → Hp → Prop, (∃ m, W 0 m (upd H1 D (.lst []))) ∧ ∀ i m H, W i m H →
      (J.stop i H ∧ Qd H) ∨ (J.go i H ∧ ∃ Nx : Hp → Prop, (∀ H', Nx H' → ∃ m', m' < m ∧ W (i + 1) m' H') ∧ ∀ x H', J.yld i H x H' → gName j x (wipe σ [j]) H' fun σ2 H2 => wipe σ2 [j] = wipe σ [j] ∧ tYes σ2 H2 fun b H3 =>
        if b = true then te σ2 H3 fun y H4 => ∃ acc, H4 D = some (.lst acc) ∧ acc.length < sizeLine ∧ Nx (upd H4 D (.lst (acc ++ [y]))) else Nx H3) :=
  lcFg w hD hn hG (fun _ => true) r (fun i x H' _ _ _ Q q => q H' Xg.refl) (fun i x H' hi hy _ => he i x H' hi hy) fun H' x' e => hd H' x' (by rw [e, kept_all])
theorem lcF (w : Walk J n G (Yy y)) (hD : H1 D = none) (hn : n ≤ 1000000) (hG : ∀ H', Xg True T H1 H' → G H') (f : Nat → Bool) (r : Nat → V)
    (ht : ∀ i x H', i < n → y i x → Xg True T H1 H' → ∀ Q : Bool → Hp → Prop, (∀ H4, Xg True T H' H4 → Q (f i) H4) → tt ((wipe σ [j]).set j (some x)) H' Q)
    (he : ∀ i x H', i < n → y i x → f i = true → Xg True T H1 H' → ∀ Q : VK, (∀ H4, Xg True T H' H4 → Q (r i) H4) → te ((wipe σ [j]).set j (some x)) H' Q)
    (hd : ∀ H', Xg True T H1 H' → H' D = some (.lst (kept n f r)) → Qd H') :
    ∃ W : Nat → Nat → Hp → Prop, (∃ m, W 0 m (upd H1 D (.lst []))) ∧ ∀ i m H, W i m H →
      (J.stop i H ∧ Qd H) ∨ (J.go i H ∧ ∃ Nx : Hp → Prop, (∀ H', Nx H' → ∃ m', m' < m ∧ W (i + 1) m' H') ∧ ∀ x H', J.yld i H x H' → gName j x (wipe σ [j]) H' fun σ2 H2 => wipe σ2 [j] = wipe σ [j] ∧ tt σ2 H2 fun b H3 =>
        if b = true then te σ2 H3 fun y H4 => ∃ acc, H4 D = some (.lst acc) ∧ acc.length < sizeLine ∧ Nx (upd H4 D (.lst (acc ++ [y]))) else Nx H3) := lcFg w hD hn hG f r ht he hd
theorem lcP (w : Walk J n G (Yy y)) (hD : H1 D = none) (hn : n ≤ 1000000) (hG : ∀ H', Xg True T H1 H' → G H') (r : Nat → V)
    (he : ∀ i x H', i < n → y i x → Xg True T H1 H' → ∀ Q : VK, (∀ H4, Xg True T H' H4 → Q (r i) H4) → te ((wipe σ [j]).set j (some x)) H' Q)
    (hd : ∀ H', Xg True T H1 H' → H' D = some (.lst ((List.range n).map r)) → Qd H') :
    ∃ W : Nat → Nat → Hp → Prop, (∃ m, W 0 m (upd H1 D (.lst []))) ∧ ∀ i m H, W i m H →
      (J.stop i H ∧ Qd H) ∨ (J.go i H ∧ ∃ Nx : Hp → Prop, (∀ H', Nx H' → ∃ m', m' < m ∧ W (i + 1) m' H') ∧ ∀ x H', J.yld i H x H' → gName j x (wipe σ [j]) H' fun σ2 H2 => wipe σ2 [j] = wipe σ [j] ∧ tYes σ2 H2 fun b H3 =>
        if b = true then te σ2 H3 fun y H4 => ∃ acc, H4 D = some (.lst acc) ∧ acc.length < sizeLine ∧ Nx (upd H4 D (.lst (acc ++ [y]))) else Nx H3) := lcPg w hD hn hG r he hd
theorem lcFs (w : Walk J n G (Yy y)) (hD : H1 D = none) (hn : n ≤ 1000000) (hG : ∀ H', Xg False T H1 H' → G H') (f : Nat → Bool) (r : Nat → V)
    (ht : ∀ i x H', i < n → y i x → Xg False T H1 H' → ∀ Q : Bool → Hp → Prop, (∀ H4, Xg False T H' H4 → Q (f i) H4) → tt ((wipe σ [j]).set j (some x)) H' Q)
    (he : ∀ i x H', i < n → y i x → f i = true → Xg False T H1 H' → ∀ Q : VK, (∀ H4, Xg False T H' H4 → Q (r i) H4) → te ((wipe σ [j]).set j (some x)) H' Q)
    (hd : ∀ H', Xg False T H1 H' → H' D = some (.lst (kept n f r)) → Qd H') :
    ∃ W : Nat → Nat → Hp → Prop, (∃ m, W 0 m (upd H1 D (.lst []))) ∧ ∀ i m H, W i m H →
      (J.stop i H ∧ Qd H) ∨ (J.go i H ∧ ∃ Nx : Hp → Prop, (∀ H', Nx H' → ∃ m', m' < m ∧ W (i + 1) m' H') ∧ ∀ x H', J.yld i H x H' → gName j x (wipe σ [j]) H' fun σ2 H2 => wipe σ2 [j] = wipe σ [j] ∧ tt σ2 H2 fun b H3 =>
        if b = true then te σ2 H3 fun y H4 => ∃ acc, H4 D = some (.lst acc) ∧ acc.length < sizeLine ∧ Nx (upd H4 D (.lst (acc ++ [y]))) else Nx H3) := lcFg w hD hn hG f r ht he hd
theorem lcPs (w : Walk J n G (Yy y)) (hD : H1 D = none) (hn : n ≤ 1000000) (hG : ∀ H', Xg False T H1 H' → G H') (r : Nat → V)
    (he : ∀ i x H', i < n → y i x → Xg False T H1 H' → ∀ Q : VK, (∀ H4, Xg False T H' H4 → Q (r i) H4) → te ((wipe σ [j]).set j (some x)) H' Q)
    (hd : ∀ H', Xg False T H1 H' → H' D = some (.lst ((List.range n).map r)) → Qd H') :
    ∃ W : Nat → Nat → Hp → Prop, (∃ m, W 0 m (upd H1 D (.lst []))) ∧ ∀ i m H, W i m H →
      (J.stop i H ∧ Qd H) ∨ (J.go i H ∧ ∃ Nx : Hp → Prop, (∀ H', Nx H' → ∃ m', m' < m ∧ W (i + 1) m' H') ∧ ∀ x H', J.yld i H x H' → gName j x (wipe σ [j]) H' fun σ2 H2 => wipe σ2 [j] = wipe σ [j] ∧ tYes σ2 H2 fun b H3 =>
        if b = true then te σ2 H3 fun y H4 => ∃ acc, H4 D = some (.lst acc) ∧ acc.length < sizeLine ∧ Nx (upd H4 D (.lst (acc ++ [y]))) else Nx H3) := lcPg w hD hn hG r he hd
end
section
variable {lo : Prop} {T : List (Addr × Str)} {J : It} {n : Nat} {G : Hp → Prop} {y : Nat → V → Prop} {te : TE} {j : Nat} {σ : L2.St} {H1 : Hp} {D : Addr} {Qd : Hp → Prop} {r : Nat → V}
/-- without a test, with what is known of the heap at each item -/
theorem lcI (R : Nat → Hp → Prop) (w : Walk J n G (Yy y)) (hD : H1 D = none) (hn : n ≤ 1000000) (hG : ∀ i H', Xg lo T H1 H' → R i H' → G H') (h0 : R 0 H1) (hR : ∀ i H xs, Xg lo T H1 H → R i H → R i (upd H D (.lst xs))) (r : Nat → V)
    (he : ∀ i x H', i < n → y i x → Xg lo T H1 H' → R i H' → ∀ Q : VK, (∀ H4, Xg lo T H' H4 → R (i + 1) H4 → Q (r i) H4) → te ((wipe σ [j]).set j (some x)) H' Q)
    (hd : ∀ H', Xg lo T H1 H' → R n H' → H' D = some (.lst ((List.range n).map r)) → Qd H') :
    ∃ W : Nat → Nat → Hp → Prop, (∃ m, W 0 m (upd H1 D (.lst []))) ∧ ∀ i m H, W i m H →
      (J.stop i H ∧ Qd H) ∨ (J.go i H ∧ ∃ Nx : Hp → Prop, (∀ H', Nx H' → ∃ m', m' < m ∧ W (i + 1) m' H') ∧ ∀ x H', J.yld i H x H' → gName j x (wipe σ [j]) H' fun σ2 H2 => wipe σ2 [j] = wipe σ [j] ∧ tYes σ2 H2 fun b H3 =>
        if b = true then te σ2 H3 fun y H4 => ∃ acc, H4 D = some (.lst acc) ∧ acc.length < sizeLine ∧ Nx (upd H4 D (.lst (acc ++ [y]))) else Nx H3) := by
  refine lc_it w (fun i H => Xg lo T H1 H ∧ R i H ∧ H D = some (.lst ((List.range i).map r))) ⟨Xg.new hD, hR 0 H1 [] .refl h0, by rw [upd_same]; rfl⟩ (fun i H _ p => hG i H p.1 p.2.1) (fun i x H H' hi p hy => ?_) fun H p => hd H p.1 p.2.1 p.2.2
  obtain ⟨eH, hy⟩ := hy
  subst eH
  refine ⟨wipe1 σ j _, ?_⟩
  unfold tYes
  refine iteT ?_
  refine he i x _ hi hy p.1 p.2.1 _ fun H5 x5 r5 => ?_
  have e5 := x5.lst p.2.2
  refine ⟨_, e5, ?_, (p.1.trans x5).mut (.of hD) e5, hR (i + 1) H5 _ (p.1.trans x5) r5, ?_⟩
  · rw [List.length_map, List.length_range]
    exact Nat.lt_of_lt_of_le hi (Nat.le_trans hn (by decide))
  · rw [upd_same, List.range_succ, List.map_append]
    rfl
end
section
variable {K : PySem.W.Frag} {a : Addr} {xs : List V}
theorem w_list : Walk (Itl K a) xs.length (fun H => SqL K H a xs) (Yy fun i x => xs[i]? = some x) := walk_list
theorem w_range {lo : Int} {n : Nat} : Walk (Itr lo n) n (fun _ => True) (Yy fun i x => x = .int (lo + i)) := walk_range
theorem w_rangeC {lo c : Int} {n : Nat} : Walk (Itc lo c n) n (fun _ => True) (Yy fun i x => x = .int (lo + (i : Nat) * c)) := walk_rangeC
end
theorem small_up {a b c : Int} (ha : 0 ≤ a ∧ a ≤ 1000000) (hb : 0 ≤ b ∧ b ≤ 1000000) (hc : 1 ≤ c ∧ c ≤ 1000000) : Builtin.Range.small a b c = true := by
  unfold Builtin.Range.small Builtin.Range.rangeSize
  have h1 : (b - a - 1) / c ≤ b - a - 1 ∨ b - a - 1 < 0 := by
    by_cases h : b - a - 1 < 0
    · exact .inr h
    · exact .inl (Int.ediv_le_self _ (by omega))
  have h2 : 0 ≤ (b - a - 1) / c ∨ b - a - 1 < 0 := by
    by_cases h : b - a - 1 < 0
    · exact .inr h
    · exact .inl (Int.ediv_nonneg (by omega) (by omega))
  simp only [Builtin.Range.rangeFitsLong, Bool.and_eq_true, Bool.or_eq_true, decide_eq_true_eq, beq_iff_eq, show c > 0 by omega, if_true]
  split <;> omega
/-! ### texts by their codes -/
def S (l : List Nat) : Str := ⟨l.toArray⟩
theorem S_app (a b : List Nat) : S a ++ S b = S (a ++ b) := by
  show (⟨a.toArray ++ b.toArray⟩ : Str) = ⟨(a ++ b).toArray⟩
  rw [List.append_toArray]
theorem S_len (l : List Nat) : (S l).length = l.length := by
  show l.toArray.size = l.length
  exact List.size_toArray
theorem S_inj {a b : List Nat} (h : S a = S b) : a = b := by
  have e : (S a).cps = (S b).cps := congrArg Str.cps h
  have e2 : a.toArray = b.toArray := e
  exact congrArg Array.toList e2
theorem S_of (z : Str) : z = S z.cps.toList := by
  cases z
  rfl
theorem w_str {l : List Nat} : Walk (Its (S l)) l.length (fun _ => True) (Yy fun i x => ∃ c, l[i]? = some c ∧ x = .str (S [c])) := by
  have h := walk_str (z := S l)
  have e : (S l).cps.size = l.length := S_len l
  rw [e] at h
  refine h.mono (fun _ _ => trivial) fun i H x H' _ _ y => ⟨y.1, ?_⟩
  obtain ⟨c, h1, h2⟩ := y.2
  exact ⟨c, by simpa [S] using h1, h2⟩
/-- bits as a text -/
def bc (b : Bool) : Nat := if b then 49 else 48
def sb (l : List Bool) : Str := S (l.map bc)
theorem sb_app (a b : List Bool) : sb a ++ sb b = sb (a ++ b) := by
  unfold sb
  rw [S_app, List.map_append]
theorem sb_len (l : List Bool) : (sb l).length = l.length := by
  unfold sb
  rw [S_len, List.length_map]
theorem bc_inj {a b : Bool} (h : bc a = bc b) : a = b := by
  cases a <;> cases b <;> first | rfl | cases h
theorem sb_inj {a b : List Bool} (h : sb a = sb b) : a = b := by
  have e := S_inj h
  exact (List.map_inj_right (f := bc) fun x y => bc_inj).mp e
theorem sb_nil : (Str.ofString "" : Str) = sb [] := by decide +kernel
theorem sb_0 : (Str.ofString "0" : Str) = sb [false] := by decide +kernel
theorem sb_1 : (Str.ofString "1" : Str) = sb [true] := by decide +kernel
/-! ### slices -/
theorem cut_S (l : List Nat) (i j : Nat) : cutS (S l) (some (i : Int)) (some (j : Int)) = S ((l.take j).drop i) := by
  unfold cutS
  rw [HT.sIx_nat, HT.sIx_nat, S_len]
  show (⟨_⟩ : Str) = ⟨_⟩
  congr 2
  show ((l.drop (min i l.length)).take (min j l.length - min i l.length)) = _
  rw [List.drop_take]
  by_cases hi : i ≤ l.length
  · rw [Nat.min_eq_left hi]
    by_cases hj : j ≤ l.length
    · rw [Nat.min_eq_left hj]
    · rw [Nat.min_eq_right (by omega), List.take_of_length_le (by rw [List.length_drop]; omega), List.take_of_length_le (by rw [List.length_drop]; omega)]
  · rw [List.drop_eq_nil_of_le (by omega : l.length ≤ min i l.length), List.drop_eq_nil_of_le (by omega : l.length ≤ i)]
    simp
theorem cut_sb (l : List Bool) (i j : Nat) : cutS (sb l) (some (i : Int)) (some (j : Int)) = sb ((l.take j).drop i) := by
  unfold sb
  rw [cut_S, List.map_drop, List.map_take]
end Tw

set_option maxHeartbeats 4000000
namespace Tw
open PySem PySem.Spec PyProof.Rows L2 LamX
section
variable {P : Program} {w : World} {K : PySem.W.Frag} {mg : Str → Option Value} {base : Heap} {x qual : Str} {params : Arguments} {body : List Stmt} {scope : Scope} {fd : FuncData} {at_ : He.Defn}
/-- the rule for a def that makes lambdas: its code object is known -/
theorem okC {CX : CXT} {N ps : List Str} {k : Nat} {sp : Sp} (F : FunD K x qual params body scope [] [] (He.fAd K at_) fd) (S : FnScope N ps scope) (len : ∀ vs H Q E, sp vs H Q E → vs.length = ps.length)
    (hbody : ∀ (A : Around) (outer : List Env) (s : Shared) (H : Hp) (vs : List V) (Q : VK) (E : XK), Room k (A.deeper (envOfC qual scope s.heap.objs.size (He.fAd K at_) (.ref (He.cT K at_).1))) → sp vs H Q E →
      ∃ t, PSs (cxOf CX P w K mg base N qual scope (He.fAd K at_) (.ref (He.cT K at_).1) A outer s H E) body t ∧ t { nx := fun _ H' => Q .non H', rt := Q } (L2.start N vs) H) : FnOk P w K mg base CX (k + 1) (He.fAd K at_) fd ps sp := by
  obtain ⟨oc, od, dV, kV, doc, pm, an, cdv, ct, osl, rfl, lk, hcd, _, _⟩ := F.ex
  obtain ⟨c, e⟩ := He.codeIn_ref hcd
  have e2 : cdv = .ref (He.cT K at_).1 := by
    rw [e]
    exact congrArg Value.ref (He.codeOf_eq lk e).symm
  subst e2
  exact fn_of lk hcd S len fun A outer s H vs Q E hr hsp => hbody A outer s H vs Q E hr hsp
end
/-- the empty tables of the start -/
theorem tabs_start {K : PySem.W.Frag} {H : Hp} {tf : List He.Defn} {q : He.Defn → Str} (h : ∀ p ∈ tf.map (He.cT K), H p.2 = some (.tbl #[])) : Tabs (tf.map fun d => ((He.cT K d).2, q d)) H := fun p hp => by
  obtain ⟨d, hd, rfl⟩ := List.mem_map.mp hp
  exact TabS.nil (h _ (List.mem_map_of_mem hd))
end Tw

set_option maxHeartbeats 4000000
namespace Tw
open PySem PySem.Spec PyProof.Rows L2 LamX
/-! ### data compared -/
def Sh (n : Nat) (d : PyData) : Prop := d.canLay0 = true ∧ d.depth ≤ n
section
variable {n m : Nat} {d e : PyData} {ds : List PyData}
theorem Sh.shaped (h : Sh n d) (hn : n ≤ 64) : SeqAt.shaped d = true := by
  unfold SeqAt.shaped
  rw [h.1, Bool.true_and]
  exact decide_eq_true (Nat.le_trans h.2 hn)
theorem Sh.mono (h : Sh n d) (hn : n ≤ m) : Sh m d := ⟨h.1, Nat.le_trans h.2 hn⟩
theorem sh_int {i : Int} : Sh n (.int i) := ⟨rfl, Nat.zero_le _⟩
theorem sh_bl {b : Bool} : Sh n (.bool b) := ⟨rfl, Nat.zero_le _⟩
theorem sh_non : Sh n .none := ⟨rfl, Nat.zero_le _⟩
theorem sh_str {x : Str} (h : PyData.strOk x = true) : Sh n (.str x) := ⟨h, Nat.zero_le _⟩
theorem sh_all : ∀ {ds : List PyData}, (∀ d ∈ ds, Sh n d) → PyData.canLayAll0 ds = true ∧ PyData.depthAll ds ≤ n
  | [], _ => ⟨rfl, Nat.zero_le _⟩
  | d :: ds, h => by
    obtain ⟨h1, h2⟩ := sh_all (ds := ds) fun x hx => h x (List.mem_cons_of_mem _ hx)
    obtain ⟨h3, h4⟩ := h d (List.mem_cons_self ..)
    refine ⟨?_, ?_⟩
    · show (d.canLay0 && PyData.canLayAll0 ds) = true
      rw [h1, h3]
      rfl
    · show max d.depth (PyData.depthAll ds) ≤ n
      omega
theorem sh_lst (h : ∀ d ∈ ds, Sh n d) : Sh (n + 1) (.list ds) := ⟨(sh_all h).1, Nat.succ_le_succ (sh_all h).2⟩
theorem sh_tup (h : ∀ d ∈ ds, Sh n d) : Sh (n + 1) (.tuple ds) := ⟨(sh_all h).1, Nat.succ_le_succ (sh_all h).2⟩
theorem sh_map {α : Type} {g : α → PyData} {l : List α} (h : ∀ x ∈ l, Sh n (g x)) : ∀ d ∈ l.map g, Sh n d := fun d hd => by
  obtain ⟨x, hx, rfl⟩ := List.mem_map.mp hd
  exact h x hx
theorem strOk_S {l : List Nat} (h : ∀ c ∈ l, c < 1114112) : PyData.strOk (S l) = true := by
  unfold PyData.strOk S
  rw [Array.all_eq_true_iff_forall_mem]
  intro c hc
  exact decide_eq_true (h c (by simpa using hc))
theorem strOk_sb (l : List Bool) : PyData.strOk (sb l) = true := strOk_S fun c hc => by
  obtain ⟨b, _, rfl⟩ := List.mem_map.mp hc
  cases b <;> decide
end
section
variable {lo : Prop} {K : PySem.W.Frag} {T : List (Addr × Str)} {H H' : Hp} {Q : VK} {x y : V} {d e : PyData} {n : Nat} {a : Addr}
theorem neD_same (hx : Dp K H x d) (hy : Dp K H y d) (s : Sh 64 d) (q : Q (.bl false) H) : rNeD K x y H Q := by
  refine ⟨d, d, hx, hy, s.shaped (Nat.le_refl _), s.shaped (Nat.le_refl _), ?_⟩
  rw [PySem.SeqAt.eqv_refl d s.1]
  exact q
theorem neC_same {σ : L2.St} (hx : Dp K H x d) (hy : Dp K H y d) (s : Sh 64 d) (q : Q (.bl false) H) : tC y σ H fun y H2 => rNeD K x y H2 Q := neD_same hx hy s q
theorem eqD_same (hx : Dp K H x d) (hy : Dp K H y d) (s : Sh 64 d) (q : Q (.bl true) H) : rEqD K x y H Q := by
  refine ⟨d, d, hx, hy, s.shaped (Nat.le_refl _), s.shaped (Nat.le_refl _), ?_⟩
  rw [PySem.SeqAt.eqv_refl d s.1]
  exact q
theorem neD_diff (hx : Dp K H x d) (hy : Dp K H y e) (sx : Sh 64 d) (sy : Sh 64 e) (h : PyData.eqv d e = false) (q : Q (.bl true) H) : rNeD K x y H Q := by
  refine ⟨d, e, hx, hy, sx.shaped (Nat.le_refl _), sy.shaped (Nat.le_refl _), ?_⟩
  rw [h]
  exact q
theorem eqD_of (hx : Dp K H x d) (hy : Dp K H y e) (sx : Sh 64 d) (sy : Sh 64 e) (q : Q (.bl (PyData.eqv d e)) H) : rEqD K x y H Q := ⟨d, e, hx, hy, sx.shaped (Nat.le_refl _), sy.shaped (Nat.le_refl _), q⟩
theorem neD_of (hx : Dp K H x d) (hy : Dp K H y e) (sx : Sh 64 d) (sy : Sh 64 e) (q : Q (.bl (!PyData.eqv d e)) H) : rNeD K x y H Q := ⟨d, e, hx, hy, sx.shaped (Nat.le_refl _), sy.shaped (Nat.le_refl _), q⟩
theorem dpAll_map {α : Type} {f : α → V} {g : α → PyData} : ∀ {l : List α}, (∀ x ∈ l, Dp K H (f x) (g x)) → DpAll K H (l.map f) (l.map g)
  | [], _ => .nil
  | x :: l, h => .cons (h x (List.mem_cons_self ..)) (dpAll_map fun y hy => h y (List.mem_cons_of_mem _ hy))
theorem dp_lst {α : Type} {f : α → V} {g : α → PyData} {l : List α} (s : SqL K H a (l.map f)) (h : ∀ x ∈ l, Dp K H (f x) (g x)) : Dp K H (.ref a) (.list (l.map g)) := .lst s (dpAll_map h)
theorem dp_ints {l : List Int} (s : SqL K H a (l.map .int)) : Dp K H (.ref a) (.list (l.map .int)) := dp_lst s fun x _ => .int x
theorem dp_strs {l : List Str} (s : SqL K H a (l.map .str)) : Dp K H (.ref a) (.list (l.map .str)) := dp_lst s fun x _ => .str x
theorem sh_ints {l : List Int} : Sh (n + 1) (.list (l.map .int)) := sh_lst (sh_map fun _ _ => sh_int)
theorem sh_strs {l : List Str} (h : ∀ x ∈ l, PyData.strOk x = true) : Sh (n + 1) (.list (l.map .str)) := sh_lst (sh_map fun x hx => sh_str (h x hx))
mutual
theorem Xg.dp (X : Xg lo T H H') : ∀ (d : PyData) (v : V), Dp K H v d → Dp K H' v d
  | .none, _, h => by cases h; exact .non
  | .bool b, _, h => by cases h; exact .bl b
  | .int i, _, h => by cases h; exact .int i
  | .str x, _, h => by cases h; exact .str x
  | .list ds, _, h => by
    cases h with
    | lst s h => exact .lst (X.seq s) (Xg.dpAll X ds _ h)
  | .tuple ds, _, h => by
    cases h with
    | tup s h => exact .tup (X.seqT s) (Xg.dpAll X ds _ h)
  | .dict _, _, h => by cases h
theorem Xg.dpAll (X : Xg lo T H H') : ∀ (ds : List PyData) (vs : List V), DpAll K H vs ds → DpAll K H' vs ds
  | [], _, h => by cases h; exact .nil
  | d :: ds, _, h => by
    cases h with
    | cons h1 h2 => exact .cons (Xg.dp X d _ h1) (Xg.dpAll X ds _ h2)
end
/-- lists of numbers, told alike -/
theorem eqvAll_ints : ∀ (l m : List Int), PyData.eqvAll (l.map .int) (m.map .int) = decide (l = m)
  | [], [] => rfl
  | [], _ :: _ => rfl
  | _ :: _, [] => rfl
  | x :: l, y :: m => by
    show ((x == y) && PyData.eqvAll (l.map .int) (m.map .int)) = _
    rw [eqvAll_ints l m, Bool.eq_iff_iff]
    simp
theorem eqv_ints (l m : List Int) : PyData.eqv (.list (l.map .int)) (.list (m.map .int)) = decide (l = m) := eqvAll_ints l m
end
end Tw

set_option maxHeartbeats 4000000
namespace Tw
open PySem PySem.Spec PyProof.Rows L2 LamX
/-! ### rules, the written part by its own name -/
section
variable {X : Cx} {K : PySem.W.Frag} (eK : X.K = K)
def rLenQ (K : PySem.W.Frag) : List V → Hp → VK → Prop := fun xs H Q => ∃ p ys, xs = [.ref p] ∧ (SqL K H p ys ∨ SqT K H p ys) ∧ Q (.int ys.length) H
def rListQ (K : PySem.W.Frag) : List V → Hp → VK → Prop := fun xs H Q => ∃ p ys, xs = [.ref p] ∧ (SqL K H p ys ∨ SqT K H p ys) ∧ ∀ l, H l = none → Q (.ref l) (upd H l (.lst ys))
include eK
theorem call_len_seqK : CallR X (.builtin "len") (rLenQ K) := by subst eK; exact call_len_seq
theorem call_list_ofK : CallR X (.type "list") (rListQ K) := by subst eK; exact call_list_of
theorem ix_listK : IxR X (rIxL K) := by subst eK; exact ix_list
theorem ix_tupK : IxR X (rIxT K) := by subst eK; exact ix_tup
theorem sl_listK : SlR X (rSlL K) := by subst eK; exact sl_list
theorem op_eqDK (hu : X.A.units + 64 < cLine) : OpR X (compareOp .Eq) (rEqD K) := by subst eK; exact op_eqD hu
theorem op_neDK (hu : X.A.units + 64 < cLine) : OpR X (compareOp .NotEq) (rNeD K) := by subst eK; exact op_neD hu
theorem cr_maxK (hc : X.calm = true) : CallR X (.builtin "max") (rMax K) := by subst eK; exact cr_max hc
theorem cr_minK (hc : X.calm = true) : CallR X (.builtin "min") (rMin K) := by subst eK; exact cr_min hc
theorem cr_allK (hc : X.calm = true) : CallR X (.builtin "all") (rAll K) := by subst eK; exact cr_all hc
theorem cr_sumK (hc : X.calm = true) : CallR X (.builtin "sum") (rSum K) := by subst eK; exact cr_sum hc
theorem mt_indexK : MtR X "list.index" (rIndex K) := by subst eK; exact mt_index
theorem op_in_seqK : OpR X (compareOp .In) (rIn K false) := by subst eK; exact op_in_seq
theorem op_notIn_seqK : OpR X (compareOp .NotIn) (rIn K true) := by subst eK; exact op_notIn_seq
theorem call_isiK : CallR X (.builtin "isinstance") (rIsi K) := by subst eK; exact call_isi
theorem cr_sortedIK : CallR X (.builtin "sorted") (rSortedI K) := by subst eK; exact cr_sortedI
end
section
variable {X : Cx} {K : PySem.W.Frag} {tg : Expr}
theorem pi_listK (eK : X.K = K) {l : Expr} {tl : TE} (hl : PE X l tl) : PI X tg l (iList K tl) := by subst eK; exact pi_list hl
theorem pi_tupK (eK : X.K = K) {l : Expr} {tl : TE} (hl : PE X l tl) : PI X tg l (iTup K tl) := by subst eK; exact pi_tup hl
def rJoin (K : PySem.W.Frag) : V → List V → Hp → VK → Prop := fun x xs H Q => ∃ a p, ∃ ys : List Str, x = .str a ∧ xs = [.ref p] ∧ (SqL K H p (ys.map V.str) ∨ SqT K H p (ys.map V.str)) ∧ (ys.map (·.length)).sum + ys.length * a.length ≤ 16777216 ∧ Q (.str (Txt.join a ys)) H
theorem pe_joinK (eK : X.K = K) {o e : Expr} {to te : TE} {apos pos : Pos} (ho : PE X o to) (he : PE X e te) (hs : starEach [e] X.env = [(false, eval e X.env)]) (hbase : attributeBase o "join" X.env (eval o X.env) = eval o X.env) (hline : (apos.endLine == pos.line) = true) :
    PE X (.Call (.Attribute o "join" apos) [e] [] pos) (tM1 (rJoin K) to te) := by subst eK; exact pe_join ho he hs hbase hline
theorem pi_enumK (eK : X.K = K) {e : Expr} {ta : TA} {p pos tpos : Pos} {elts : List Expr} {kk : Nat} (hg : Gl X "enumerate") (hm : X.mg "enumerate" = none) (ha : PA X [e] ta) (hs : starEach [e] X.env = [(false, eval e X.env)]) :
    PI X (.Tuple elts kk tpos) (.Call (.Name "enumerate" p) [e] [] pos) (iEnum K ta) := by subst eK; exact pi_enum hg hm ha hs
theorem pi_zipK (eK : X.K = K) {e e2 : Expr} {ta : TA} {p pos tpos : Pos} {elts : List Expr} {kk : Nat} (hg : Gl X "zip") (hm : X.mg "zip" = none) (ha : PA X [e, e2] ta)
    (hs : starEach [e, e2] X.env = (false, eval e X.env) :: starEach [e2] X.env) (hpl : (backTo pos (starEach [e2] X.env)).any (·.1) = false) :
    PI X (.Tuple elts kk tpos) (.Call (.Name "zip" p) [e, e2] [] pos) (iZip K ta) := by subst eK; exact pi_zip hg hm ha hs hpl
theorem pi_reversedK (eK : X.K = K) {e : Expr} {ta : TA} {p pos : Pos} (hg : Gl X "reversed") (hm : X.mg "reversed" = none) (ha : PA X [e] ta) (hs : starEach [e] X.env = [(false, eval e X.env)]) : PI X tg (.Call (.Name "reversed" p) [e] [] pos) (iRev K ta) := by subst eK; exact pi_reversed hg hm ha hs
theorem pg_tupK (eK : X.K = K) {es : List Expr} {k : Nat} {t : TGs} {n : Nat} {pos : Pos} (hc : X.calm = true) (h : PGs X es t)
    (hn : (assignEach es X.env).length = n) (hst : (assignEach es X.env).findIdx? (·.1) = none) : PG X (.Tuple es k pos) (gTup K n t) := by subst eK; exact pg_tup hc h hn hst
theorem pg_lstK (eK : X.K = K) {es : List Expr} {k : Nat} {t : TGs} {n : Nat} {pos : Pos} (hc : X.calm = true) (h : PGs X es t)
    (hn : (assignEach es X.env).length = n) (hst : (assignEach es X.env).findIdx? (·.1) = none) : PG X (.Tuple es k pos) (gLst K n t) := by subst eK; exact pg_lst hc h hn hst
theorem pe_fldK (eK : X.K = K) {e : Expr} {ta : TE} {f : Str} {pos : Pos} (he : PE X e ta) (hb : attributeBase e f X.env (eval e X.env) = eval e X.env) : PE X (.Attribute e f pos) (tFld K ta f) := by subst eK; exact pe_fld he hb
theorem pe_bm0K (eK : X.K = K) {o : Expr} {to : TE} {name : Str} {apos cpos : Pos} {T id : String} {r : V → List V → Hp → VK → Prop} (pa : PlainAttrs T) (slot : Slot T name id) (hty : typeOf (.builtin id) = pure (.type "method_descriptor")) (hm : MtR X id r) (ho : PE X o to)
    (hbase : attributeBase o name X.env (eval o X.env) = eval o X.env) (hline : (apos.endLine == cpos.line) = true) : PE X (.Call (.Attribute o name apos) [] [] cpos) (tBM0 K T r to) := by subst eK; exact pe_bm0 pa slot hty hm ho hbase hline
theorem pe_bmK (eK : X.K = K) {o e : Expr} {es : List Expr} {to : TE} {t : TA} {name : Str} {apos cpos : Pos} {T id : String} {r : V → List V → Hp → VK → Prop} (pa : PlainAttrs T) (slot : Slot T name id) (hty : typeOf (.builtin id) = pure (.type "method_descriptor")) (hm : MtR X id r) (ho : PE X o to) (ha : PA X (e :: es) t)
    (hbase : attributeBase o name X.env (eval o X.env) = eval o X.env)
    (hfew : ((backTo cpos (starEach (e :: es) X.env)).all (fun x => !x.1) && (backToKw cpos (keywordEach [] X.env)).all (fun x => x.1.isSome)
      && decide ((e :: es).length + ([] : List Keyword).length + (if ([] : List Keyword).isEmpty then 0 else 1) < 30)) = true)
    (hline : (apos.endLine == cpos.line) = true) (hs : starEach (e :: es) X.env = (false, eval e X.env) :: starEach es X.env) (hplain : (backTo cpos (starEach es X.env)).any (·.1) = false) :
    PE X (.Call (.Attribute o name apos) (e :: es) [] cpos) (tBM K T r to t) := by subst eK; exact pe_bm pa slot hty hm ho ha hbase hfew hline hs hplain
end
/-- two ways to one rest -/
theorem via {P R : Hp → Prop} {G : Prop} (main : (∀ H', P H' → R H') → G) (rest : ∀ H', P H' → R H') : G := main rest
/-! ### slices of lists -/
theorem cut_take (l : List V) (j : Nat) : cutV l none (some (j : Int)) = l.take j := by
  unfold cutV
  rw [HT.sIx_nat]
  show (l.drop 0).take (min j l.length - 0) = _
  rw [List.drop_zero, Nat.sub_zero]
  by_cases hj : j ≤ l.length
  · rw [Nat.min_eq_left hj]
  · rw [Nat.min_eq_right (by omega), List.take_of_length_le (Nat.le_refl _), List.take_of_length_le (by omega)]
theorem cut_nat (l : List V) (i j : Nat) : cutV l (some (i : Int)) (some (j : Int)) = (l.take j).drop i := by
  unfold cutV
  rw [HT.sIx_nat, HT.sIx_nat, List.drop_take]
  by_cases hi : i ≤ l.length
  · rw [Nat.min_eq_left hi]
    by_cases hj : j ≤ l.length
    · rw [Nat.min_eq_left hj]
    · rw [Nat.min_eq_right (by omega), List.take_of_length_le (by rw [List.length_drop]; omega), List.take_of_length_le (by rw [List.length_drop]; omega)]
  · rw [List.drop_eq_nil_of_le (by omega : l.length ≤ min i l.length), List.drop_eq_nil_of_le (by omega : l.length ≤ i)]
    simp
theorem cut_drop (l : List V) (i : Nat) : cutV l (some (i : Int)) none = l.drop i := by
  unfold cutV
  rw [HT.sIx_nat]
  show (l.drop (min i l.length)).take (l.length - min i l.length) = _
  by_cases hi : i ≤ l.length
  · rw [Nat.min_eq_left hi, List.take_of_length_le (by rw [List.length_drop]; omega)]
  · rw [List.drop_eq_nil_of_le (by omega : l.length ≤ min i l.length), List.drop_eq_nil_of_le (by omega : l.length ≤ i)]
    simp
end Tw

set_option maxHeartbeats 4000000
namespace Tw
open PySem PySem.Spec PyProof.Rows L2 LamX
/-! ### a text so many times -/
def rRepS : R2 := fun x y H Q => ∃ z k, x = .str z ∧ y = .int k ∧ MulOk z k ∧ Q (.str (Txt.mul z k)) H
theorem op_repS {X : Cx} : OpR X (binaryOp .Mult) rRepS := by
  intro pins s σ H x y v u Q I rx ry h
  obtain ⟨z, k, rfl, rfl, hok, q⟩ := h
  obtain ⟨t, rfl⟩ := rx
  obtain ⟨t', rfl⟩ := ry
  exact SB.mul hok fun t' tk => ⟨.str (Txt.mul z k), H, I.tok _, ⟨_, rfl⟩, q⟩
theorem fold_reps : ∀ (n : Nat) (c : Nat) (a : List Nat), (List.replicate n (#[c] : Array Nat)).foldl (· ++ ·) a.toArray = (a ++ List.replicate n c).toArray
  | 0, c, a => by simp
  | n + 1, c, a => by
    rw [List.replicate_succ, List.foldl_cons]
    have e : a.toArray ++ (#[c] : Array Nat) = (a ++ [c]).toArray := by simp
    rw [e, fold_reps n c, List.append_assoc]
    rfl
theorem mul_S (c : Nat) (k : Int) : Txt.mul (S [c]) k = S (List.replicate k.toNat c) := by
  unfold Txt.mul
  by_cases h : k < 1
  · rw [if_pos h, show k.toNat = 0 by omega]
    rfl
  · rw [if_neg h]
    by_cases h1 : k = 1
    · subst h1
      rfl
    · have hf : (k == 1 || (S [c]).length == 0) = false := by
        rw [Bool.or_eq_false_iff]
        exact ⟨by simpa using h1, rfl⟩
      rw [hf]
      show (⟨_⟩ : Str) = S _
      have := fold_reps k.toNat c []
      unfold S
      rw [List.nil_append] at this
      rw [← this]
theorem mulOk_S {c : Nat} {k : Int} (h1 : -1000000 ≤ k) (h2 : k ≤ 1000000) : MulOk (S [c]) k := by
  refine ⟨?_, fun h3 _ => ?_, fun h3 _ => ?_⟩
  · rw [Bool.or_eq_false_iff]
    exact ⟨decide_eq_false (by omega), decide_eq_false (by omega)⟩
  · have h5 : (1 : Int) ≤ (2 ^ 63 - 1) / k := by
      refine (Int.le_ediv_iff_mul_le (by omega)).mpr ?_
      omega
    show ¬ ((1 : Int) > _)
    omega
  · show decide (1 * k.toNat > sizeLine) = false
    refine decide_eq_false ?_
    have : sizeLine = 16777216 := by decide
    omega
theorem fold_repsA : ∀ (n : Nat) (c a : List Nat), (List.replicate n (c.toArray : Array Nat)).foldl (· ++ ·) a.toArray = (a ++ (List.replicate n c).flatten).toArray
  | 0, c, a => by simp
  | n + 1, c, a => by
    rw [List.replicate_succ, List.foldl_cons]
    have e : a.toArray ++ c.toArray = (a ++ c).toArray := by simp
    rw [e, fold_repsA n c, List.append_assoc]
    rfl
theorem mul_sb (l : List Bool) (k : Nat) (h2 : 2 ≤ k) (hl : l ≠ []) : Txt.mul (sb l) (k : Int) = sb (List.replicate k l).flatten := by
  unfold Txt.mul
  rw [if_neg (by omega)]
  have hlen : (sb l).length ≠ 0 := by
    rw [sb_len]
    exact fun z => hl (List.eq_nil_of_length_eq_zero z)
  have hf : ((k : Int) == 1 || (sb l).length == 0) = false := by
    rw [Bool.or_eq_false_iff]
    refine ⟨?_, by simpa using hlen⟩
    rw [beq_eq_false_iff_ne]
    omega
  rw [hf]
  show (⟨_⟩ : Str) = sb _
  have h3 := fold_repsA k (l.map bc) []
  unfold sb S
  rw [List.nil_append] at h3
  rw [List.map_flatten, List.map_replicate, ← h3]
  rfl
theorem mulOk_sb {l : List Bool} {k : Nat} (h1 : l.length ≤ 1000) (h2 : k ≤ 10000) : MulOk (sb l) (k : Int) := by
  refine ⟨?_, fun h3 _ => ?_, fun h3 _ => ?_⟩
  · rw [Bool.or_eq_false_iff]
    exact ⟨decide_eq_false (by omega), decide_eq_false (by omega)⟩
  · have h5 : (1000 : Int) ≤ (2 ^ 63 - 1) / (k : Int) := by
      refine (Int.le_ediv_iff_mul_le (by omega)).mpr ?_
      omega
    rw [sb_len]
    omega
  · show decide ((sb l).length * ((k : Int)).toNat > sizeLine) = false
    refine decide_eq_false ?_
    rw [sb_len, Int.toNat_natCast]
    have : sizeLine = 16777216 := by decide
    have := Nat.mul_le_mul h1 h2
    omega
theorem cutS_take (l : List Nat) (j : Nat) : cutS (S l) none (some (j : Int)) = S (l.take j) := by
  unfold cutS
  rw [HT.sIx_nat, S_len]
  show (⟨_⟩ : Str) = ⟨_⟩
  congr 2
  show (l.drop 0).take (min j l.length - 0) = _
  rw [List.drop_zero, Nat.sub_zero]
  by_cases hj : j ≤ l.length
  · rw [Nat.min_eq_left hj]
  · rw [Nat.min_eq_right (by omega), List.take_of_length_le (Nat.le_refl _), List.take_of_length_le (by omega)]
end Tw

set_option maxHeartbeats 4000000
namespace Tw
open PySem PySem.Spec PyProof.Rows L2 LamX
/-! ### how many bits a number needs -/
def nd (n : Nat) : Nat := if h : n = 0 then 0 else nd (n / 2) + 1
theorem nd_zero : nd 0 = 0 := by rw [nd]; rfl
theorem nd_pos {n : Nat} (h : 0 < n) : nd n = nd (n / 2) + 1 := by
  rw [nd, dif_neg (Nat.ne_of_gt h)]
theorem nd_le : ∀ (w n : Nat), nd n ≤ w ↔ n < 2 ^ w
  | 0, n => by
    rcases Nat.eq_zero_or_pos n with h | h
    · subst h; rw [nd_zero]; decide
    · rw [nd_pos h]; simp; omega
  | w + 1, n => by
    rcases Nat.eq_zero_or_pos n with h | h
    · subst h; rw [nd_zero]; simp [Nat.pow_pos]
    · rw [nd_pos h, Nat.pow_succ]
      have := nd_le w (n / 2)
      omega
theorem nd_lo2 {n : Nat} (h : 0 < n) : 0 < nd n := by rw [nd_pos h]; omega
theorem nd_le_self (n : Nat) : nd n ≤ n := (nd_le n n).mpr Nat.lt_two_pow_self
/-! ### a number in so many bits -/
def bn (n : Nat) : Nat → List Bool
  | 0 => []
  | w + 1 => bn (n / 2) w ++ [n % 2 == 1]
theorem bn_len : ∀ (w n : Nat), (bn n w).length = w
  | 0, _ => rfl
  | w + 1, n => by rw [bn, List.length_append, bn_len w]; rfl
theorem bn_front : ∀ (w n : Nat), bn n (w + 1) = (n / 2 ^ w % 2 == 1) :: bn n w
  | 0, n => by simp [bn]
  | w + 1, n => by
    rw [bn, bn_front w (n / 2), bn, List.cons_append, Nat.div_div_eq_div_mul, Nat.pow_succ, Nat.mul_comm]
/-- the number that bits tell -/
def vb (l : List Bool) : Nat := l.foldl (fun a b => 2 * a + b.toNat) 0
theorem vb_snoc (l : List Bool) (b : Bool) : vb (l ++ [b]) = 2 * vb l + b.toNat := by
  unfold vb
  rw [List.foldl_append]
  rfl
theorem vb_bn : ∀ (w n : Nat), vb (bn n w) = n % 2 ^ w
  | 0, n => by simp [bn, vb, Nat.mod_one]
  | w + 1, n => by
    rw [bn, vb_snoc, vb_bn w (n / 2)]
    have e : (n % 2 == 1).toNat = n % 2 := by
      rcases Nat.mod_two_eq_zero_or_one n with h | h <;> rw [h] <;> rfl
    rw [e, Nat.pow_succ, Nat.mul_comm (2 ^ w) 2, Nat.mod_mul]
    omega
theorem bn_vb_lt {w n : Nat} (h : n < 2 ^ w) : vb (bn n w) = n := by rw [vb_bn, Nat.mod_eq_of_lt h]
theorem vb_from : ∀ (l : List Bool) (a : Nat), l.foldl (fun a b => 2 * a + b.toNat) a < (a + 1) * 2 ^ l.length
  | [], a => by simp
  | b :: r, a => by
    have h := vb_from r (2 * a + b.toNat)
    have hb : b.toNat ≤ 1 := by cases b <;> decide
    refine Nat.lt_of_lt_of_le h ?_
    rw [List.length_cons, Nat.pow_succ, Nat.mul_comm (2 ^ r.length) 2, ← Nat.mul_assoc]
    exact Nat.mul_le_mul_right _ (by omega)
theorem vb_lt (l : List Bool) : vb l < 2 ^ l.length := by
  have h := vb_from l 0
  rw [Nat.zero_add, Nat.one_mul] at h
  exact h
/-! ### the text of a bit, a sign's number -/
theorem str_bit (n : Nat) : (Str.ofString (toString ((n : Int) % 2)) : Str) = sb [n % 2 == 1] := by
  rcases Nat.mod_two_eq_zero_or_one n with h | h
  · have e : (n : Int) % 2 = 0 := by omega
    rw [e, h]
    decide +kernel
  · have e : (n : Int) % 2 = 1 := by omega
    rw [e, h]
    decide +kernel
theorem int_bit (b : Bool) : PySem.intText? (S [bc b]) = some (b.toNat : Int) := by
  cases b <;> decide +kernel
theorem toNat_lt (b : Bool) : (b.toNat : Int) ≤ 1 := by cases b <;> decide
/-! ### bits and other texts -/
def IsB (z : Str) : Prop := ∃ l, z = sb l
theorem isB_iff (l : List Nat) : IsB (S l) ↔ ∀ c ∈ l, c = 48 ∨ c = 49 := by
  constructor
  · rintro ⟨m, e⟩ c hc
    rw [S_inj e] at hc
    obtain ⟨b, _, rfl⟩ := List.mem_map.mp hc
    cases b
    · exact .inl rfl
    · exact .inr rfl
  · intro h
    refine ⟨l.map fun c => c == 49, ?_⟩
    unfold sb
    congr 1
    rw [List.map_map]
    conv => lhs; rw [← List.map_id l]
    refine List.map_congr_left fun c hc => ?_
    rcases h c hc with rfl | rfl <;> rfl
theorem signs01 : (Str.ofString "01" : Str).cps.toList = [48, 49] := by decide +kernel
theorem all_bits (l : List Nat) : ((List.range l.length).map fun i => decide (l.getD i 0 ∈ [48, 49])).all id = decide (∀ c ∈ l, c = 48 ∨ c = 49) := by
  rw [Bool.eq_iff_iff]
  simp only [List.all_eq_true, List.mem_map, List.mem_range, decide_eq_true_eq, id]
  constructor
  · intro h c hc
    obtain ⟨i, hi, rfl⟩ := List.mem_iff_getElem.mp hc
    have := h _ ⟨i, hi, rfl⟩
    rw [decide_eq_true_eq, List.getD_eq_getElem?_getD, List.getElem?_eq_getElem hi] at this
    simpa using this
  · rintro h b ⟨i, hi, rfl⟩
    rw [decide_eq_true_eq, List.getD_eq_getElem?_getD, List.getElem?_eq_getElem hi]
    simpa using h _ (List.getElem_mem hi)
/-! ### joined -/
theorem join_S : ∀ ls : List (List Nat), Txt.join (S []) (ls.map S) = S ls.flatten := by
  intro ls
  rw [show Txt.join (S []) (ls.map S) = Str.join (S []) (ls.map S) from StrLaws.glued_eq_join _ _]
  induction ls with
  | nil => rfl
  | cons a r ih =>
    cases r with
    | nil => show S a = _; rw [List.flatten_cons, List.flatten_nil, List.append_nil]
    | cons b r =>
      show S a ++ S [] ++ Str.join (S []) ((b :: r).map S) = _
      rw [ih, S_app, S_app, List.append_nil]
      rfl
theorem join_sb (ls : List (List Bool)) : Txt.join (sb []) (ls.map sb) = sb ls.flatten := by
  have e := join_S (ls.map (List.map bc))
  rw [List.map_map] at e
  rw [show (ls.map sb) = ls.map (S ∘ List.map bc) from rfl, show sb [] = S [] from rfl, e]
  unfold sb
  rw [List.map_flatten]
theorem sum_len (ls : List (List Bool)) : (ls.map sb).map Str.length = ls.map List.length := by
  rw [List.map_map]
  exact List.map_congr_left fun l _ => sb_len l
/-! ### packed -/
def pk (ns : List Nat) (w : Nat) : List Bool := (ns.map fun n => bn n w).flatten
theorem pk_len (ns : List Nat) (w : Nat) : (pk ns w).length = ns.length * w := by
  unfold pk
  induction ns with
  | nil => simp
  | cons n r ih => rw [List.map_cons, List.flatten_cons, List.length_append, ih, bn_len, List.length_cons, Nat.succ_mul]; omega
/-- the part of w bits at i -/
def part (l : List Bool) (w i : Nat) : List Bool := (l.take (i * w + w)).drop (i * w)
theorem part_pk : ∀ (ns : List Nat) (w i : Nat) (n : Nat), ns[i]? = some n → part (pk ns w) w i = bn n w
  | [], _, _, _, h => by simp at h
  | m :: r, w, 0, n, h => by
    have e : m = n := by simpa using h
    subst e
    unfold part pk
    rw [List.map_cons, List.flatten_cons, Nat.zero_mul, Nat.zero_add, List.drop_zero, List.take_append_of_le_length (by rw [bn_len]; exact Nat.le_refl _), List.take_of_length_le (by rw [bn_len]; exact Nat.le_refl _)]
  | m :: r, w, i + 1, n, h => by
    have ih := part_pk r w i n (by simpa using h)
    rw [← ih]
    unfold part pk
    rw [List.map_cons, List.flatten_cons]
    have e1 : (i + 1) * w + w = (bn m w).length + (i * w + w) := by rw [bn_len, Nat.succ_mul]; omega
    have e2 : (i + 1) * w = (bn m w).length + i * w := by rw [bn_len, Nat.succ_mul]; omega
    rw [e1, List.take_length_add_append, e2, List.drop_length_add_append]
end Tw

set_option maxHeartbeats 4000000
namespace Tw
open PySem PySem.Spec PyProof.Rows L2 LamX
/-! ### drawn numbers -/
abbrev pA : Int := 340282366920938463463374607431768211507
abbrev pB : Int := 340282366920938463463374607431768211297
abbrev pC : Int := 18446744073709551557
def dr1 (c k : Int) : Int := (c * 6364136223846793005 + (k + 1) * 1442695040888963407) % pA
def dr2 (c k : Int) : Int := dr1 c k * dr1 c k % pB
def dr (c k : Int) : Int := (dr2 c k % pC + 1) * (dr2 c k / pC + 1) * dr2 c k % pA
theorem dr1_rng (c k : Int) : 0 ≤ dr1 c k ∧ dr1 c k < pA := ⟨Int.emod_nonneg _ (by decide), Int.emod_lt_of_pos _ (by decide)⟩
theorem dr2_rng (c k : Int) : 0 ≤ dr2 c k ∧ dr2 c k < pB := ⟨Int.emod_nonneg _ (by decide), Int.emod_lt_of_pos _ (by decide)⟩
theorem dr_rng (c k : Int) : 0 ≤ dr c k ∧ dr c k < pA := ⟨Int.emod_nonneg _ (by decide), Int.emod_lt_of_pos _ (by decide)⟩
theorem dr1_abs (c k : Int) : (dr1 c k).natAbs < 2 ^ 129 := by have := dr1_rng c k; simp only [pA] at this; omega
theorem dr2_abs (c k : Int) : (dr2 c k).natAbs < 2 ^ 129 := by have := dr2_rng c k; simp only [pB] at this; omega
theorem dr2_a (c k : Int) : (dr2 c k % pC + 1).natAbs < 2 ^ 65 := by
  have h := Int.emod_nonneg (dr2 c k) (show pC ≠ 0 by decide)
  have h2 := Int.emod_lt_of_pos (dr2 c k) (show 0 < pC by decide)
  simp only [pC] at h h2 ⊢
  omega
theorem dr2_b (c k : Int) : (dr2 c k / pC + 1).natAbs < 2 ^ 129 := by
  have := dr2_rng c k
  have h : 0 ≤ dr2 c k / pC := Int.ediv_nonneg this.1 (by decide)
  have h2 : dr2 c k / pC ≤ dr2 c k := Int.ediv_le_self _ this.1
  simp only [pB] at this
  omega
/-- the cell that a turn looks at -/
def cellV (ns : List Int) (k : Nat) : Int := if ns = [] then (k : Int) * 7919 else ns.getD (k % ns.length) 0 + ((k / ns.length : Nat) : Int) * 104729
def mosts : List Int := [0, 1, 2, 7, 8, 255, 256, 10 ^ 9, 2 ^ 40 - 1]
theorem mosts_le (j : Nat) : 0 ≤ mosts.getD j 0 ∧ mosts.getD j 0 < 1099511627776 := by
  by_cases h : j < 9
  · have : ∀ i, i < 9 → 0 ≤ mosts.getD i 0 ∧ mosts.getD i 0 < 1099511627776 := by decide +kernel
    exact this j h
  · rw [List.getD_eq_getElem?_getD, List.getElem?_eq_none (show mosts.length ≤ j from Nat.le_of_not_lt h)]
    decide
end Tw

set_option maxHeartbeats 4000000
namespace Tw
open PySem PySem.Spec PyProof.Rows L2 LamX
/-! ### the places at which f holds -/
def fr (f : Nat → Bool) (n : Nat) : List Nat := (List.range n).filter f
section
variable {f : Nat → Bool} {n p : Nat}
theorem fr_succ : fr f (n + 1) = fr f n ++ if f n = true then [n] else [] := by
  unfold fr
  rw [List.range_succ, List.filter_append]
  congr 1
  by_cases h : f n = true
  · simp [h]
  · simp [h]
theorem fr_len_succ : (fr f (n + 1)).length = (fr f n).length + if f n = true then 1 else 0 := by
  rw [fr_succ, List.length_append]
  split <;> rfl
theorem fr_mono (h : p ≤ n) : (fr f p).length ≤ (fr f n).length := by
  induction n with
  | zero => rw [Nat.le_zero.mp h]; exact Nat.le_refl _
  | succ n ih =>
    rcases Nat.lt_or_ge n p with h1 | h1
    · rw [show p = n + 1 by omega]; exact Nat.le_refl _
    · rw [fr_len_succ]
      have := ih h1
      omega
theorem fr_le : (fr f n).length ≤ n := by
  unfold fr
  exact Nat.le_trans (List.length_filter_le _ _) (by rw [List.length_range]; exact Nat.le_refl _)
theorem fr_mem {x : Nat} : x ∈ fr f n ↔ x < n ∧ f x = true := by
  unfold fr
  rw [List.mem_filter, List.mem_range]
theorem fr_take (h : p ≤ n) : (fr f n).take (fr f p).length = fr f p := by
  induction n with
  | zero => rw [Nat.le_zero.mp h]; exact List.take_of_length_le (Nat.le_refl _)
  | succ n ih =>
    rcases Nat.lt_or_ge n p with h1 | h1
    · rw [show p = n + 1 by omega]; exact List.take_of_length_le (Nat.le_refl _)
    · rw [fr_succ, List.take_append_of_le_length (fr_mono h1), ih h1]
theorem fr_get (h : p < n) (hp : f p = true) : (fr f n)[(fr f p).length]? = some p := by
  induction n with
  | zero => omega
  | succ n ih =>
    rw [fr_succ]
    rcases Nat.lt_or_ge p n with h1 | h1
    · have e := ih h1
      rw [List.getElem?_append_left (List.getElem?_eq_some_iff.mp e).1]
      exact e
    · have e : p = n := by omega
      subst e
      rw [hp, List.getElem?_append_right (Nat.le_refl _), Nat.sub_self]
      rfl
theorem fr_lt (h : p ≤ n) : (fr f n).filter (fun i => decide (i < p)) = fr f p := by
  induction n with
  | zero => rw [Nat.le_zero.mp h]; rfl
  | succ n ih =>
    rcases Nat.lt_or_ge n p with h1 | h1
    · rw [show p = n + 1 by omega, List.filter_eq_self]
      intro x hx
      exact decide_eq_true (fr_mem.mp hx).1
    · rw [fr_succ, List.filter_append, ih h1]
      by_cases hf : f n = true
      · rw [if_pos hf, List.filter_cons, if_neg (by rw [decide_eq_false (by omega)]; decide)]
        exact List.append_nil _
      · rw [if_neg hf]
        exact List.append_nil _
theorem fr_ge (h : p ≤ n) : (fr f n).filter (fun i => decide (i ≥ p)) = (fr f n).drop (fr f p).length := by
  induction n with
  | zero => rw [Nat.le_zero.mp h]; rfl
  | succ n ih =>
    rcases Nat.lt_or_ge n p with h1 | h1
    · rw [show p = n + 1 by omega, List.drop_of_length_le (Nat.le_refl _), List.filter_eq_nil_iff]
      intro x hx hd
      have := (fr_mem.mp hx).1
      have := of_decide_eq_true hd
      omega
    · rw [fr_succ, List.filter_append, ih h1, List.drop_append_of_le_length (fr_mono h1)]
      congr 1
      by_cases hf : f n = true
      · rw [if_pos hf, List.filter_cons, if_pos (decide_eq_true h1)]
        rfl
      · rw [if_neg hf]
        rfl
theorem fr_add (a k : Nat) : (fr f (a + k)).length = (fr f a).length + (fr (fun i => f (a + i)) k).length := by
  induction k with
  | zero => rfl
  | succ k ih =>
    rw [show a + (k + 1) = (a + k) + 1 from rfl, fr_len_succ, ih, fr_len_succ]
    omega
theorem fr_congr {g : Nat → Bool} (h : ∀ i, i < n → f i = g i) : fr f n = fr g n := by
  unfold fr
  exact List.filter_congr fun i hi => h i (List.mem_range.mp hi)
end
/-! ### a row's places -/
def bt (b : Bool) (l : List Bool) (i : Nat) : Bool := l[i]? == some b
def pos (b : Bool) (l : List Bool) : List Nat := fr (bt b l) l.length
def cn (b : Bool) (l : List Bool) (p : Nat) : Nat := (fr (bt b l) p).length
section
variable {b : Bool} {l : List Bool} {p n : Nat}
theorem bt_iff : bt b l p = true ↔ l[p]? = some b := by unfold bt; exact beq_iff_eq
theorem cn_zero : cn b l 0 = 0 := rfl
theorem cn_succ : cn b l (p + 1) = cn b l p + if bt b l p = true then 1 else 0 := fr_len_succ
theorem cn_le : cn b l p ≤ p := fr_le
theorem cn_mono (h : p ≤ n) : cn b l p ≤ cn b l n := fr_mono h
theorem cn_two (h : p ≤ l.length) : cn true l p + cn false l p = p := by
  induction p with
  | zero => rfl
  | succ p ih =>
    have ih := ih (by omega)
    rw [cn_succ, cn_succ]
    have : l[p]? = some true ∨ l[p]? = some false := by
      rw [List.getElem?_eq_getElem (show p < l.length by omega)]
      cases l[p]
      · exact .inr rfl
      · exact .inl rfl
    rcases this with h | h
    · rw [if_pos (bt_iff.mpr h), if_neg (fun z => by rw [bt_iff.mp z] at h; cases h)]
      omega
    · rw [if_pos (bt_iff.mpr h), if_neg (fun z => by rw [bt_iff.mp z] at h; cases h)]
      omega
theorem pos_len : (pos b l).length = cn b l l.length := rfl
theorem pos_get (hp : l[p]? = some b) : (pos b l)[cn b l p]? = some p := fr_get (List.getElem?_eq_some_iff.mp hp).1 (bt_iff.mpr hp)
theorem pos_none (h : cn b l l.length ≤ n) : (pos b l)[n]? = none := List.getElem?_eq_none h
end
theorem sum_bits (l : List Bool) (a : Nat) : ∀ (k : Nat), a + k ≤ l.length → (((List.range k).map fun i => (((l.getD (a + i) false).toNat : Nat) : Int)).sum) = ((cn true l (a + k) : Nat) : Int) - (cn true l a : Nat)
  | 0, _ => by simp
  | k + 1, h => by
    have ih := sum_bits l a k (by omega)
    rw [List.range_succ, List.map_append, List.sum_append, ih, show a + (k + 1) = (a + k) + 1 from rfl, cn_succ]
    have e : l[a + k]? = some l[a + k] := List.getElem?_eq_getElem (by omega)
    simp only [List.map_cons, List.map_nil, List.sum_cons, List.sum_nil, List.getD_eq_getElem?_getD, e, Option.getD_some]
    cases hb : l[a + k] with
    | true =>
      rw [if_pos (bt_iff.mpr (by rw [e, hb]))]
      simp
      omega
    | false =>
      rw [if_neg (fun z => by rw [bt_iff.mp z] at e; rw [hb] at e; cases e)]
      simp
def on : Option Nat → V
  | some p => .int p
  | none => .non
theorem cn_all (b : Bool) : ∀ l : List Bool, cn b l l.length = l.count b
  | [] => rfl
  | x :: r => by
    have ih := cn_all b r
    unfold cn at ih ⊢
    have e2 : fr (fun i => bt b (x :: r) (1 + i)) r.length = fr (bt b r) r.length := fr_congr fun i _ => by
      unfold bt
      rw [Nat.add_comm 1 i, List.getElem?_cons_succ]
    have e3 : (fr (bt b (x :: r)) (0 + 1)).length = if x = b then 1 else 0 := by
      rw [fr_len_succ]
      show 0 + _ = _
      unfold bt
      by_cases h : x = b
      · simp [h]
      · simp [h]
    rw [List.length_cons, Nat.add_comm r.length 1, fr_add, e2, ih, List.count_cons, show (1 : Nat) = 0 + 1 from rfl, e3]
    by_cases h : x = b
    · simp [h]
      omega
    · simp [h]
theorem count_alt : ∀ k : Nat, ((List.replicate k [true, false]).flatten).count true = k ∧ ((List.replicate k [true, false]).flatten).length = 2 * k
  | 0 => ⟨rfl, rfl⟩
  | k + 1 => by
    obtain ⟨h1, h2⟩ := count_alt k
    rw [List.replicate_succ, List.flatten_cons]
    refine ⟨?_, ?_⟩
    · rw [List.count_append, h1]
      show 1 + k = k + 1
      omega
    · rw [List.length_append, h2]
      show 2 + 2 * k = _
      omega
def dOn : Option Nat → PyData
  | some p => .int p
  | none => .none
theorem dp_on {K : PySem.W.Frag} {H : Hp} (o : Option Nat) : Dp K H (on o) (dOn o) := by
  cases o with
  | none => exact .non
  | some p => exact .int _
theorem sh_on {n : Nat} (o : Option Nat) : Sh n (dOn o) := by
  cases o with
  | none => exact sh_non
  | some p => exact sh_int
theorem kept_list (L : List Nat) (g : Nat → Bool) (h : Nat → V) : kept L.length (fun i => g (L.getD i 0)) (fun i => h (L.getD i 0)) = (L.filter g).map h := by
  unfold kept
  have e : L = (List.range L.length).map fun i => L.getD i 0 := by
    refine List.ext_getElem (by simp) fun i h1 h2 => ?_
    simp [List.getD_eq_getElem?_getD, List.getElem?_eq_getElem h1]
  conv => rhs; rw [e]
  rw [List.filter_map, List.map_map]
  rfl
theorem first_on (A : List Nat) : atI (A.map (fun (i : Nat) => V.int i) ++ [.non]) 0 = some (on A[0]?) := by
  cases A with
  | nil => rfl
  | cons a A => exact atI_nat (j := 0) rfl
theorem last_on (A : List Nat) : atI ([.non] ++ A.map (fun (i : Nat) => V.int i)) (-1) = some (on (if A.length = 0 then none else A[A.length - 1]?)) := by
  rcases List.eq_nil_or_concat A with h | ⟨B, b, h⟩
  · subst h
    rfl
  · have h : A = B ++ [b] := by rw [h, List.concat_eq_append]
    subst h
    rw [List.map_append, ← List.append_assoc]
    have hl : (B ++ [b]).length = B.length + 1 := by simp
    rw [hl, if_neg (by omega), Nat.add_sub_cancel, List.getElem?_append_right (Nat.le_refl _), Nat.sub_self]
    exact atI_last _ _
/-! ### counted signs -/
open StrLaws Builtin Builtin.Str in
theorem occ_one (x : Str) (c limit : Nat) : ∀ (k i : Nat) (st : Array Nat × Nat), st.2 ≤ i → st.1.size + k ≤ limit →
    (forIn (List.range' i k) st (occBody x ⟨#[c]⟩ x.length limit)).run.fst.toList = st.fst.toList ++ (List.range' i k).filter (fun j => x.cps.toList[j]? == some c)
  | 0, i, st, _, _ => by simp
  | k + 1, i, st, h1, h2 => by
    rw [List.range'_succ, List.forIn_cons]
    unfold occBody
    by_cases hc : x.cps.toList[i]? = some c
    · have hs := (subAt_one x c i).mpr hc
      rw [if_pos ⟨⟨⟨by omega, h1⟩, hs.1⟩, hs.2⟩]
      have ih := occ_one x c limit k (i + 1) (st.fst.push i, i + (⟨#[c]⟩ : Str).length) (Nat.le_refl _) (by rw [Array.size_push]; omega)
      rw [List.filter_cons, if_pos (beq_iff_eq.mpr hc)]
      refine Eq.trans ih ?_
      rw [Array.toList_push, List.append_assoc]
      rfl
    · rw [if_neg (fun z => hc ((subAt_one x c i).mp ⟨z.1.2, z.2⟩))]
      have ih := occ_one x c limit k (i + 1) (st.fst, st.snd) (Nat.le_succ_of_le h1) (by show st.1.size + k ≤ limit; omega)
      rw [List.filter_cons, if_neg (fun z => hc (beq_iff_eq.mp z))]
      exact ih
theorem count_sign (l : List Bool) (b : Bool) : Txt.count (sb l) (sb [b]) = (cn b l l.length : Int) := by
  have e1 : sb [b] = ⟨#[bc b]⟩ := rfl
  unfold Txt.count
  rw [e1, StrLaws.occ_eq, occ_one (sb l) (bc b) ((sb l).length + 1) ((sb l).length + 1 - 0) 0 (#[], 0) (Nat.le_refl _) (by show 0 + ((sb l).length + 1 - 0) ≤ _; omega)]
  congr 1
  show (([] : List Nat) ++ (List.range' 0 ((sb l).length + 1 - 0)).filter _).length = (fr (bt b l) l.length).length
  rw [List.nil_append, Nat.sub_zero, sb_len, ← List.range_eq_range', List.range_succ, List.filter_append]
  have h0 : (sb l).cps.toList = l.map bc := rfl
  rw [h0]
  have h1 : List.filter (fun j => (l.map bc)[j]? == some (bc b)) [l.length] = [] := by
    rw [List.filter_cons, List.getElem?_eq_none (by rw [List.length_map]; exact Nat.le_refl _)]
    rfl
  rw [h1, List.append_nil]
  congr 1
  refine List.filter_congr fun i hi => ?_
  unfold bt
  rw [List.getElem?_map]
  cases l[i]? with
  | none => rfl
  | some c => cases c <;> cases b <;> rfl
theorem cn_take {b : Bool} {l : List Bool} {a : Nat} (h : a ≤ l.length) : cn b (l.take a) (l.take a).length = cn b l a := by
  rw [List.length_take, Nat.min_eq_left h]
  unfold cn
  rw [fr_congr fun i hi => ?_]
  unfold bt
  rw [List.getElem?_take, if_pos hi]
theorem count_bit (l : List Bool) : Txt.count (sb l) "1" = (cn true l l.length : Int) := by
  have e1 : (Str.ofString "1" : Str) = ⟨#[49]⟩ := by decide +kernel
  unfold Txt.count
  rw [e1, StrLaws.occ_eq, occ_one (sb l) 49 ((sb l).length + 1) ((sb l).length + 1 - 0) 0 (#[], 0) (Nat.le_refl _) (by show 0 + ((sb l).length + 1 - 0) ≤ _; omega)]
  congr 1
  show (([] : List Nat) ++ (List.range' 0 ((sb l).length + 1 - 0)).filter _).length = (fr (bt true l) l.length).length
  rw [List.nil_append, Nat.sub_zero, sb_len, ← List.range_eq_range', List.range_succ, List.filter_append]
  have h0 : (sb l).cps.toList = l.map bc := rfl
  rw [h0]
  have h1 : List.filter (fun j => (l.map bc)[j]? == some 49) [l.length] = [] := by
    rw [List.filter_cons, List.getElem?_eq_none (by rw [List.length_map]; exact Nat.le_refl _)]
    rfl
  rw [h1, List.append_nil]
  congr 1
  refine List.filter_congr fun i hi => ?_
  unfold bt
  rw [List.getElem?_map]
  cases l[i]? with
  | none => rfl
  | some b => cases b <;> rfl
end Tw

set_option maxHeartbeats 0
namespace Tw
open PySem PySem.Spec PyProof.Rows L2 LamX
def top (i : Nat) : Stmt := PySem.Challenge.pw_tersewood_k21_room_and_looks.main.body.getD i (.Pass ⟨0, 0, 0, 0⟩)
def dd (n : Str) (i : Nat) : He.DefD := ⟨(n, none), n, n, defArgs (top i), defBody (top i), defScope (top i), [], []⟩
def dm (C m q : Str) (i j : Nat) : He.DefD := ⟨(C, some m), m, q, defArgs (inClass (top i) j), defBody (inClass (top i) j), defScope (inClass (top i) j), [], []⟩
def fnL : List He.DefD := [dd "needs" 8, dd "in_bits" 9, dd "out_of" 10, dd "need_bits" 11, dd "pack" 12, dd "need_packed" 13, dd "number_at" 14, dm "Row" "__init__" "Row.__init__" 18 0, dm "Row" "need" "Row.need" 18 1, dm "Row" "bits" "Row.bits" 18 3, dm "Row" "look" "Row.look" 18 4, dm "Row" "bit" "Row.bit" 18 5, dm "Row" "up_to" "Row.up_to" 18 6, dm "Row" "ones" "Row.ones" 18 7, dm "Row" "noughts" "Row.noughts" 18 8, dm "Row" "ahead" "Row.ahead" 18 9, dm "Row" "found_at" "Row.found_at" 18 10, dm "Row" "one_at" "Row.one_at" 18 11, dm "Row" "nought_at" "Row.nought_at" 18 12, dm "Row" "room" "Row.room" 18 15, dm "Row" "looks" "Row.looks" 18 16, dd "_law_cell" 20, dd "_law_drawn" 21, dd "_law_needs" 22, dd "_law_bits" 23, dd "_law_asked" 24, dd "_law_due" 25, dd "law" 26]
def faL : List He.Fa := [.glo "needs", .glo "in_bits", .glo "out_of", .glo "need_bits", .glo "pack", .glo "need_packed", .glo "number_at", .glo "_law_cell", .glo "_law_drawn", .glo "_law_needs", .glo "_law_bits", .glo "_law_asked", .glo "_law_due", .glo "law", .free "range", .free "str", .free "int", .free "all", .free "len", .free "sum", .free "min", .free "max", .int "BLOCK" 32, .int "MOST" 4096, .glo "TerseError", .exc "TerseError", .exm "TerseError" "TerseError" true, .glo "BadNumber", .exc "BadNumber", .exm "BadNumber" "TerseError" true, .glo "BadBits", .exc "BadBits", .exm "BadBits" "TerseError" true, .glo "BadPlace", .exc "BadPlace", .exm "BadPlace" "TerseError" true, .glo "TooMany", .exc "TooMany", .exm "TooMany" "TerseError" true, .glo "Row", .cls "Row", .mkr "Row", .noat "Row" "own", .noat "Row" "wide", .noat "Row" "whole_blocks", .noat "Row" "counts", .noat "Row" "seen", .meth "Row" "__init__", .meth "Row" "need", .meth "Row" "bits", .meth "Row" "look", .meth "Row" "bit", .meth "Row" "up_to", .meth "Row" "ones", .meth "Row" "noughts", .meth "Row" "ahead", .meth "Row" "found_at", .meth "Row" "one_at", .meth "Row" "nought_at", .meth "Row" "room", .meth "Row" "looks"]
abbrev R : PySem.W.OpenRow := PySem.W.OpenLaw.row PySem.Challenge.rw_tersewood_k21_room_and_looks
def tf : List He.Defn := []
def tK (K : PySem.W.Frag) : List (Addr × Str) := []
def exL (K : PySem.W.Frag) : Bool := true
abbrev hk : PySem.W.Hook := He.hookX 5 faL fnL [] tf exL
def ob (s : PySem.W.SharedT) : He.AlX := He.obsX 5 faL fnL [] tf exL (HandSHeadRun.getT s)
theorem ob_eq (s : PySem.W.SharedT) : ob s = hk.obs s.abs := He.obsX_eq (HandSHeadRun.getT_eq s)
def loose0 : List Str := ["__name__", "_wall", "TerseError", "BadNumber", "BadBits", "BadPlace", "TooMany", "needs", "in_bits", "out_of", "need_bits", "pack", "need_packed", "number_at", "BLOCK", "MOST", "Row", "_law_cell", "_law_drawn", "_law_needs"]
def loose1 : List Str := ["_law_bits", "_law_asked", "_law_due"]
def loose : List Str := loose0 ++ loose1
theorem run (w : World) : HandSHeadRun.RunEq R (PySem.W.view R.prog [26]) hk ob 30000 loose w := by
  intro os
  kernel_rfl
structure Tx (K : PySem.W.Frag) (mg : Str → Option Value) : Prop where
  hx : ∃ h, K.In h ∧ h.Ns mainGlobals mg ∧ He.SaysD faL fnL K
  more : exL K = true
section
variable {K : PySem.W.Frag} {mg : Str → Option Value}
theorem Tx.fct (T : Tx K mg) (i : Nat) {f : He.Fa} (h : faL[i]? = some f) : f.ok K = true := T.hx.choose_spec.2.2.fact i h
theorem Tx.glo (T : Tx K mg) (i : Nat) {x : Str} (h : faL[i]? = some (.glo x)) : mg x = some (.ref (He.ga K x)) := He.glo_ok T.hx.choose_spec.1 T.hx.choose_spec.2.1 (T.fct i h)
theorem Tx.free (T : Tx K mg) (i : Nat) {x : Str} (h : faL[i]? = some (.free x)) : mg x = none := He.free_ok T.hx.choose_spec.1 T.hx.choose_spec.2.1 (T.fct i h)
theorem Tx.int (T : Tx K mg) (i : Nat) {x : Str} {z : Int} (h : faL[i]? = some (.int x z)) : ∃ t, mg x = some (.int z t) := He.int_ok T.hx.choose_spec.1 T.hx.choose_spec.2.1 (T.fct i h)
theorem Tx.str (T : Tx K mg) (i : Nat) {x z : Str} (h : faL[i]? = some (.str x z)) : ∃ t, mg x = some (.str z t) := He.str_ok T.hx.choose_spec.1 T.hx.choose_spec.2.1 (T.fct i h)
theorem Tx.fd (T : Tx K mg) (i : Nat) {d : He.DefD} (h : fnL[i]? = some d) (h1 : d.dfl = []) (h2 : d.kwd = []) : FunD K d.name d.qual d.params d.body d.scope [] [] (He.fAd K d.at_) (fdOf K d.at_) := by
  obtain ⟨fd, F⟩ := T.hx.choose_spec.2.2.def_ i h
  have e1 : d.dvs K = [] := by unfold He.DefD.dvs; rw [h1]; rfl
  have e2 : d.kws K = [] := by unfold He.DefD.kws; rw [h2]; rfl
  rw [e1, e2] at F
  exact fdOf_of F
abbrev s_needs : Stmt := top 8
theorem Tx.F_needs (T : Tx K mg) : FunD K "needs" "needs" (defArgs s_needs) (defBody s_needs) (defScope s_needs) [] [] (He.fAd K ("needs", none)) (fdOf K ("needs", none)) := T.fd 0 rfl rfl rfl
theorem Tx.B_needs (T : Tx K mg) : Binds K (fdOf K ("needs", none)) ["number"] [] := T.F_needs.bindsN fun _ _ _ _ _ _ us hl => match us, hl with | [_], _ => rfl
abbrev N_needs : List Str := ["number", "found"]
theorem sc_needs : FnScope N_needs ["number"] (defScope s_needs) := ⟨rfl, rfl, rfl, by decide +kernel, rfl, by decide +kernel, by decide +kernel⟩
abbrev s_in_bits : Stmt := top 9
theorem Tx.F_in_bits (T : Tx K mg) : FunD K "in_bits" "in_bits" (defArgs s_in_bits) (defBody s_in_bits) (defScope s_in_bits) [] [] (He.fAd K ("in_bits", none)) (fdOf K ("in_bits", none)) := T.fd 1 rfl rfl rfl
theorem Tx.B_in_bits (T : Tx K mg) : Binds K (fdOf K ("in_bits", none)) ["number", "wide"] [] := T.F_in_bits.bindsN fun _ _ _ _ _ _ us hl => match us, hl with | [_, _], _ => rfl
abbrev N_in_bits : List Str := ["number", "wide", "found", "turn"]
theorem sc_in_bits : FnScope N_in_bits ["number", "wide"] (defScope s_in_bits) := ⟨rfl, rfl, rfl, by decide +kernel, rfl, by decide +kernel, by decide +kernel⟩
abbrev s_out_of : Stmt := top 10
theorem Tx.F_out_of (T : Tx K mg) : FunD K "out_of" "out_of" (defArgs s_out_of) (defBody s_out_of) (defScope s_out_of) [] [] (He.fAd K ("out_of", none)) (fdOf K ("out_of", none)) := T.fd 2 rfl rfl rfl
theorem Tx.B_out_of (T : Tx K mg) : Binds K (fdOf K ("out_of", none)) ["bits"] [] := T.F_out_of.bindsN fun _ _ _ _ _ _ us hl => match us, hl with | [_], _ => rfl
abbrev N_out_of : List Str := ["bits", "found", "sign"]
theorem sc_out_of : FnScope N_out_of ["bits"] (defScope s_out_of) := ⟨rfl, rfl, rfl, by decide +kernel, rfl, by decide +kernel, by decide +kernel⟩
abbrev s_need_bits : Stmt := top 11
theorem Tx.F_need_bits (T : Tx K mg) : FunD K "need_bits" "need_bits" (defArgs s_need_bits) (defBody s_need_bits) (defScope s_need_bits) [] [] (He.fAd K ("need_bits", none)) (fdOf K ("need_bits", none)) := T.fd 3 rfl rfl rfl
theorem Tx.B_need_bits (T : Tx K mg) : Binds K (fdOf K ("need_bits", none)) ["bits"] [] := T.F_need_bits.bindsN fun _ _ _ _ _ _ us hl => match us, hl with | [_], _ => rfl
abbrev N_need_bits : List Str := ["bits", "sign"]
theorem sc_need_bits : FnScope N_need_bits ["bits"] (defScope s_need_bits) := ⟨rfl, rfl, rfl, by decide +kernel, rfl, by decide +kernel, by decide +kernel⟩
abbrev s_pack : Stmt := top 12
theorem Tx.F_pack (T : Tx K mg) : FunD K "pack" "pack" (defArgs s_pack) (defBody s_pack) (defScope s_pack) [] [] (He.fAd K ("pack", none)) (fdOf K ("pack", none)) := T.fd 4 rfl rfl rfl
theorem Tx.B_pack (T : Tx K mg) : Binds K (fdOf K ("pack", none)) ["numbers", "wide"] [] := T.F_pack.bindsN fun _ _ _ _ _ _ us hl => match us, hl with | [_, _], _ => rfl
abbrev N_pack : List Str := ["numbers", "wide", "number"]
theorem sc_pack : FnScope N_pack ["numbers", "wide"] (defScope s_pack) := ⟨rfl, rfl, rfl, by decide +kernel, rfl, by decide +kernel, by decide +kernel⟩
abbrev s_need_packed : Stmt := top 13
theorem Tx.F_need_packed (T : Tx K mg) : FunD K "need_packed" "need_packed" (defArgs s_need_packed) (defBody s_need_packed) (defScope s_need_packed) [] [] (He.fAd K ("need_packed", none)) (fdOf K ("need_packed", none)) := T.fd 5 rfl rfl rfl
theorem Tx.B_need_packed (T : Tx K mg) : Binds K (fdOf K ("need_packed", none)) ["bits", "wide"] [] := T.F_need_packed.bindsN fun _ _ _ _ _ _ us hl => match us, hl with | [_, _], _ => rfl
abbrev N_need_packed : List Str := ["bits", "wide"]
theorem sc_need_packed : FnScope N_need_packed ["bits", "wide"] (defScope s_need_packed) := ⟨rfl, rfl, rfl, by decide +kernel, rfl, by decide +kernel, by decide +kernel⟩
abbrev s_number_at : Stmt := top 14
theorem Tx.F_number_at (T : Tx K mg) : FunD K "number_at" "number_at" (defArgs s_number_at) (defBody s_number_at) (defScope s_number_at) [] [] (He.fAd K ("number_at", none)) (fdOf K ("number_at", none)) := T.fd 6 rfl rfl rfl
theorem Tx.B_number_at (T : Tx K mg) : Binds K (fdOf K ("number_at", none)) ["bits", "wide", "place"] [] := T.F_number_at.bindsN fun _ _ _ _ _ _ us hl => match us, hl with | [_, _, _], _ => rfl
abbrev N_number_at : List Str := ["bits", "wide", "place"]
theorem sc_number_at : FnScope N_number_at ["bits", "wide", "place"] (defScope s_number_at) := ⟨rfl, rfl, rfl, by decide +kernel, rfl, by decide +kernel, by decide +kernel⟩
abbrev s_Row_init : Stmt := inClass (top 18) 0
theorem Tx.F_Row_init (T : Tx K mg) : FunD K "__init__" "Row.__init__" (defArgs s_Row_init) (defBody s_Row_init) (defScope s_Row_init) [] [] (He.fAd K ("Row", some "__init__")) (fdOf K ("Row", some "__init__")) := T.fd 7 rfl rfl rfl
theorem Tx.B_Row_init (T : Tx K mg) : Binds K (fdOf K ("Row", some "__init__")) ["self", "bits"] [] := T.F_Row_init.bindsN fun _ _ _ _ _ _ us hl => match us, hl with | [_, _], _ => rfl
abbrev N_Row_init : List Str := ["self", "bits", "counts", "so_far", "block"]
theorem sc_Row_init : FnScope N_Row_init ["self", "bits"] (defScope s_Row_init) := ⟨rfl, rfl, rfl, by decide +kernel, rfl, by decide +kernel, by decide +kernel⟩
abbrev s_Row_need : Stmt := inClass (top 18) 1
theorem Tx.F_Row_need (T : Tx K mg) : FunD K "need" "Row.need" (defArgs s_Row_need) (defBody s_Row_need) (defScope s_Row_need) [] [] (He.fAd K ("Row", some "need")) (fdOf K ("Row", some "need")) := T.fd 8 rfl rfl rfl
theorem Tx.B_Row_need (T : Tx K mg) : Binds K (fdOf K ("Row", some "need")) ["self", "good"] [] := T.F_Row_need.bindsN fun _ _ _ _ _ _ us hl => match us, hl with | [_, _], _ => rfl
abbrev N_Row_need : List Str := ["self", "good"]
theorem sc_Row_need : FnScope N_Row_need ["self", "good"] (defScope s_Row_need) := ⟨rfl, rfl, rfl, by decide +kernel, rfl, by decide +kernel, by decide +kernel⟩
abbrev s_Row_bits : Stmt := inClass (top 18) 3
theorem Tx.F_Row_bits (T : Tx K mg) : FunD K "bits" "Row.bits" (defArgs s_Row_bits) (defBody s_Row_bits) (defScope s_Row_bits) [] [] (He.fAd K ("Row", some "bits")) (fdOf K ("Row", some "bits")) := T.fd 9 rfl rfl rfl
theorem Tx.B_Row_bits (T : Tx K mg) : Binds K (fdOf K ("Row", some "bits")) ["self"] [] := T.F_Row_bits.bindsN fun _ _ _ _ _ _ us hl => match us, hl with | [_], _ => rfl
abbrev N_Row_bits : List Str := ["self"]
theorem sc_Row_bits : FnScope N_Row_bits ["self"] (defScope s_Row_bits) := ⟨rfl, rfl, rfl, by decide +kernel, rfl, by decide +kernel, by decide +kernel⟩
abbrev s_Row_look : Stmt := inClass (top 18) 4
theorem Tx.F_Row_look (T : Tx K mg) : FunD K "look" "Row.look" (defArgs s_Row_look) (defBody s_Row_look) (defScope s_Row_look) [] [] (He.fAd K ("Row", some "look")) (fdOf K ("Row", some "look")) := T.fd 10 rfl rfl rfl
theorem Tx.B_Row_look (T : Tx K mg) : Binds K (fdOf K ("Row", some "look")) ["self", "place"] [] := T.F_Row_look.bindsN fun _ _ _ _ _ _ us hl => match us, hl with | [_, _], _ => rfl
abbrev N_Row_look : List Str := ["self", "place"]
theorem sc_Row_look : FnScope N_Row_look ["self", "place"] (defScope s_Row_look) := ⟨rfl, rfl, rfl, by decide +kernel, rfl, by decide +kernel, by decide +kernel⟩
abbrev s_Row_bit : Stmt := inClass (top 18) 5
theorem Tx.F_Row_bit (T : Tx K mg) : FunD K "bit" "Row.bit" (defArgs s_Row_bit) (defBody s_Row_bit) (defScope s_Row_bit) [] [] (He.fAd K ("Row", some "bit")) (fdOf K ("Row", some "bit")) := T.fd 11 rfl rfl rfl
theorem Tx.B_Row_bit (T : Tx K mg) : Binds K (fdOf K ("Row", some "bit")) ["self", "place"] [] := T.F_Row_bit.bindsN fun _ _ _ _ _ _ us hl => match us, hl with | [_, _], _ => rfl
abbrev N_Row_bit : List Str := ["self", "place"]
theorem sc_Row_bit : FnScope N_Row_bit ["self", "place"] (defScope s_Row_bit) := ⟨rfl, rfl, rfl, by decide +kernel, rfl, by decide +kernel, by decide +kernel⟩
abbrev s_Row_up_to : Stmt := inClass (top 18) 6
theorem Tx.F_Row_up_to (T : Tx K mg) : FunD K "up_to" "Row.up_to" (defArgs s_Row_up_to) (defBody s_Row_up_to) (defScope s_Row_up_to) [] [] (He.fAd K ("Row", some "up_to")) (fdOf K ("Row", some "up_to")) := T.fd 12 rfl rfl rfl
theorem Tx.B_Row_up_to (T : Tx K mg) : Binds K (fdOf K ("Row", some "up_to")) ["self", "block"] [] := T.F_Row_up_to.bindsN fun _ _ _ _ _ _ us hl => match us, hl with | [_, _], _ => rfl
abbrev N_Row_up_to : List Str := ["self", "block"]
theorem sc_Row_up_to : FnScope N_Row_up_to ["self", "block"] (defScope s_Row_up_to) := ⟨rfl, rfl, rfl, by decide +kernel, rfl, by decide +kernel, by decide +kernel⟩
abbrev s_Row_ones : Stmt := inClass (top 18) 7
theorem Tx.F_Row_ones (T : Tx K mg) : FunD K "ones" "Row.ones" (defArgs s_Row_ones) (defBody s_Row_ones) (defScope s_Row_ones) [] [] (He.fAd K ("Row", some "ones")) (fdOf K ("Row", some "ones")) := T.fd 13 rfl rfl rfl
theorem Tx.B_Row_ones (T : Tx K mg) : Binds K (fdOf K ("Row", some "ones")) ["self", "place"] [] := T.F_Row_ones.bindsN fun _ _ _ _ _ _ us hl => match us, hl with | [_, _], _ => rfl
abbrev N_Row_ones : List Str := ["self", "place", "block", "at"]
theorem sc_Row_ones : FnScope N_Row_ones ["self", "place"] (defScope s_Row_ones) := ⟨rfl, rfl, rfl, by decide +kernel, rfl, by decide +kernel, by decide +kernel⟩
abbrev s_Row_noughts : Stmt := inClass (top 18) 8
theorem Tx.F_Row_noughts (T : Tx K mg) : FunD K "noughts" "Row.noughts" (defArgs s_Row_noughts) (defBody s_Row_noughts) (defScope s_Row_noughts) [] [] (He.fAd K ("Row", some "noughts")) (fdOf K ("Row", some "noughts")) := T.fd 14 rfl rfl rfl
theorem Tx.B_Row_noughts (T : Tx K mg) : Binds K (fdOf K ("Row", some "noughts")) ["self", "place"] [] := T.F_Row_noughts.bindsN fun _ _ _ _ _ _ us hl => match us, hl with | [_, _], _ => rfl
abbrev N_Row_noughts : List Str := ["self", "place"]
theorem sc_Row_noughts : FnScope N_Row_noughts ["self", "place"] (defScope s_Row_noughts) := ⟨rfl, rfl, rfl, by decide +kernel, rfl, by decide +kernel, by decide +kernel⟩
abbrev s_Row_ahead : Stmt := inClass (top 18) 9
theorem Tx.F_Row_ahead (T : Tx K mg) : FunD K "ahead" "Row.ahead" (defArgs s_Row_ahead) (defBody s_Row_ahead) (defScope s_Row_ahead) [] [] (He.fAd K ("Row", some "ahead")) (fdOf K ("Row", some "ahead")) := T.fd 15 rfl rfl rfl
theorem Tx.B_Row_ahead (T : Tx K mg) : Binds K (fdOf K ("Row", some "ahead")) ["self", "block", "sign"] [] := T.F_Row_ahead.bindsN fun _ _ _ _ _ _ us hl => match us, hl with | [_, _, _], _ => rfl
abbrev N_Row_ahead : List Str := ["self", "block", "sign"]
theorem sc_Row_ahead : FnScope N_Row_ahead ["self", "block", "sign"] (defScope s_Row_ahead) := ⟨rfl, rfl, rfl, by decide +kernel, rfl, by decide +kernel, by decide +kernel⟩
abbrev s_Row_found_at : Stmt := inClass (top 18) 10
theorem Tx.F_Row_found_at (T : Tx K mg) : FunD K "found_at" "Row.found_at" (defArgs s_Row_found_at) (defBody s_Row_found_at) (defScope s_Row_found_at) [] [] (He.fAd K ("Row", some "found_at")) (fdOf K ("Row", some "found_at")) := T.fd 16 rfl rfl rfl
theorem Tx.B_Row_found_at (T : Tx K mg) : Binds K (fdOf K ("Row", some "found_at")) ["self", "number", "sign"] [] := T.F_Row_found_at.bindsN fun _ _ _ _ _ _ us hl => match us, hl with | [_, _, _], _ => rfl
abbrev N_Row_found_at : List Str := ["self", "number", "sign", "low", "high", "middle", "left", "place"]
theorem sc_Row_found_at : FnScope N_Row_found_at ["self", "number", "sign"] (defScope s_Row_found_at) := ⟨rfl, rfl, rfl, by decide +kernel, rfl, by decide +kernel, by decide +kernel⟩
abbrev s_Row_one_at : Stmt := inClass (top 18) 11
theorem Tx.F_Row_one_at (T : Tx K mg) : FunD K "one_at" "Row.one_at" (defArgs s_Row_one_at) (defBody s_Row_one_at) (defScope s_Row_one_at) [] [] (He.fAd K ("Row", some "one_at")) (fdOf K ("Row", some "one_at")) := T.fd 17 rfl rfl rfl
theorem Tx.B_Row_one_at (T : Tx K mg) : Binds K (fdOf K ("Row", some "one_at")) ["self", "number"] [] := T.F_Row_one_at.bindsN fun _ _ _ _ _ _ us hl => match us, hl with | [_, _], _ => rfl
abbrev N_Row_one_at : List Str := ["self", "number"]
theorem sc_Row_one_at : FnScope N_Row_one_at ["self", "number"] (defScope s_Row_one_at) := ⟨rfl, rfl, rfl, by decide +kernel, rfl, by decide +kernel, by decide +kernel⟩
abbrev s_Row_nought_at : Stmt := inClass (top 18) 12
theorem Tx.F_Row_nought_at (T : Tx K mg) : FunD K "nought_at" "Row.nought_at" (defArgs s_Row_nought_at) (defBody s_Row_nought_at) (defScope s_Row_nought_at) [] [] (He.fAd K ("Row", some "nought_at")) (fdOf K ("Row", some "nought_at")) := T.fd 18 rfl rfl rfl
theorem Tx.B_Row_nought_at (T : Tx K mg) : Binds K (fdOf K ("Row", some "nought_at")) ["self", "number"] [] := T.F_Row_nought_at.bindsN fun _ _ _ _ _ _ us hl => match us, hl with | [_, _], _ => rfl
abbrev N_Row_nought_at : List Str := ["self", "number"]
theorem sc_Row_nought_at : FnScope N_Row_nought_at ["self", "number"] (defScope s_Row_nought_at) := ⟨rfl, rfl, rfl, by decide +kernel, rfl, by decide +kernel, by decide +kernel⟩
abbrev s_Row_room : Stmt := inClass (top 18) 15
theorem Tx.F_Row_room (T : Tx K mg) : FunD K "room" "Row.room" (defArgs s_Row_room) (defBody s_Row_room) (defScope s_Row_room) [] [] (He.fAd K ("Row", some "room")) (fdOf K ("Row", some "room")) := T.fd 19 rfl rfl rfl
theorem Tx.B_Row_room (T : Tx K mg) : Binds K (fdOf K ("Row", some "room")) ["self"] [] := T.F_Row_room.bindsN fun _ _ _ _ _ _ us hl => match us, hl with | [_], _ => rfl
abbrev N_Row_room : List Str := ["self"]
theorem sc_Row_room : FnScope N_Row_room ["self"] (defScope s_Row_room) := ⟨rfl, rfl, rfl, by decide +kernel, rfl, by decide +kernel, by decide +kernel⟩
abbrev s_Row_looks : Stmt := inClass (top 18) 16
theorem Tx.F_Row_looks (T : Tx K mg) : FunD K "looks" "Row.looks" (defArgs s_Row_looks) (defBody s_Row_looks) (defScope s_Row_looks) [] [] (He.fAd K ("Row", some "looks")) (fdOf K ("Row", some "looks")) := T.fd 20 rfl rfl rfl
theorem Tx.B_Row_looks (T : Tx K mg) : Binds K (fdOf K ("Row", some "looks")) ["self"] [] := T.F_Row_looks.bindsN fun _ _ _ _ _ _ us hl => match us, hl with | [_], _ => rfl
abbrev N_Row_looks : List Str := ["self"]
theorem sc_Row_looks : FnScope N_Row_looks ["self"] (defScope s_Row_looks) := ⟨rfl, rfl, rfl, by decide +kernel, rfl, by decide +kernel, by decide +kernel⟩
abbrev s__law_cell : Stmt := top 20
theorem Tx.F__law_cell (T : Tx K mg) : FunD K "_law_cell" "_law_cell" (defArgs s__law_cell) (defBody s__law_cell) (defScope s__law_cell) [] [] (He.fAd K ("_law_cell", none)) (fdOf K ("_law_cell", none)) := T.fd 21 rfl rfl rfl
theorem Tx.B__law_cell (T : Tx K mg) : Binds K (fdOf K ("_law_cell", none)) ["_law_script", "_law_k"] [] := T.F__law_cell.bindsN fun _ _ _ _ _ _ us hl => match us, hl with | [_, _], _ => rfl
abbrev N__law_cell : List Str := ["_law_script", "_law_k"]
theorem sc__law_cell : FnScope N__law_cell ["_law_script", "_law_k"] (defScope s__law_cell) := ⟨rfl, rfl, rfl, by decide +kernel, rfl, by decide +kernel, by decide +kernel⟩
abbrev s__law_drawn : Stmt := top 21
theorem Tx.F__law_drawn (T : Tx K mg) : FunD K "_law_drawn" "_law_drawn" (defArgs s__law_drawn) (defBody s__law_drawn) (defScope s__law_drawn) [] [] (He.fAd K ("_law_drawn", none)) (fdOf K ("_law_drawn", none)) := T.fd 22 rfl rfl rfl
theorem Tx.B__law_drawn (T : Tx K mg) : Binds K (fdOf K ("_law_drawn", none)) ["_law_cell_here", "_law_k"] [] := T.F__law_drawn.bindsN fun _ _ _ _ _ _ us hl => match us, hl with | [_, _], _ => rfl
abbrev N__law_drawn : List Str := ["_law_cell_here", "_law_k", "_law_more"]
theorem sc__law_drawn : FnScope N__law_drawn ["_law_cell_here", "_law_k"] (defScope s__law_drawn) := ⟨rfl, rfl, rfl, by decide +kernel, rfl, by decide +kernel, by decide +kernel⟩
abbrev s__law_needs : Stmt := top 22
theorem Tx.F__law_needs (T : Tx K mg) : FunD K "_law_needs" "_law_needs" (defArgs s__law_needs) (defBody s__law_needs) (defScope s__law_needs) [] [] (He.fAd K ("_law_needs", none)) (fdOf K ("_law_needs", none)) := T.fd 23 rfl rfl rfl
theorem Tx.B__law_needs (T : Tx K mg) : Binds K (fdOf K ("_law_needs", none)) ["_law_number"] [] := T.F__law_needs.bindsN fun _ _ _ _ _ _ us hl => match us, hl with | [_], _ => rfl
abbrev N__law_needs : List Str := ["_law_number", "_law_found"]
theorem sc__law_needs : FnScope N__law_needs ["_law_number"] (defScope s__law_needs) := ⟨rfl, rfl, rfl, by decide +kernel, rfl, by decide +kernel, by decide +kernel⟩
abbrev s__law_bits : Stmt := top 23
theorem Tx.F__law_bits (T : Tx K mg) : FunD K "_law_bits" "_law_bits" (defArgs s__law_bits) (defBody s__law_bits) (defScope s__law_bits) [] [] (He.fAd K ("_law_bits", none)) (fdOf K ("_law_bits", none)) := T.fd 24 rfl rfl rfl
theorem Tx.B__law_bits (T : Tx K mg) : Binds K (fdOf K ("_law_bits", none)) ["_law_number", "_law_wide"] [] := T.F__law_bits.bindsN fun _ _ _ _ _ _ us hl => match us, hl with | [_, _], _ => rfl
abbrev N__law_bits : List Str := ["_law_number", "_law_wide", "_law_found", "_law_turn"]
theorem sc__law_bits : FnScope N__law_bits ["_law_number", "_law_wide"] (defScope s__law_bits) := ⟨rfl, rfl, rfl, by decide +kernel, rfl, by decide +kernel, by decide +kernel⟩
abbrev s__law_asked : Stmt := top 24
theorem Tx.F__law_asked (T : Tx K mg) : FunD K "_law_asked" "_law_asked" (defArgs s__law_asked) (defBody s__law_asked) (defScope s__law_asked) [] [] (He.fAd K ("_law_asked", none)) (fdOf K ("_law_asked", none)) := T.fd 25 rfl rfl rfl
theorem Tx.B__law_asked (T : Tx K mg) : Binds K (fdOf K ("_law_asked", none)) ["_law_row", "_law_way", "_law_at"] [] := T.F__law_asked.bindsN fun _ _ _ _ _ _ us hl => match us, hl with | [_, _, _], _ => rfl
abbrev N__law_asked : List Str := ["_law_row", "_law_way", "_law_at"]
theorem sc__law_asked : FnScope N__law_asked ["_law_row", "_law_way", "_law_at"] (defScope s__law_asked) := ⟨rfl, rfl, rfl, by decide +kernel, rfl, by decide +kernel, by decide +kernel⟩
abbrev s__law_due : Stmt := top 25
theorem Tx.F__law_due (T : Tx K mg) : FunD K "_law_due" "_law_due" (defArgs s__law_due) (defBody s__law_due) (defScope s__law_due) [] [] (He.fAd K ("_law_due", none)) (fdOf K ("_law_due", none)) := T.fd 26 rfl rfl rfl
theorem Tx.B__law_due (T : Tx K mg) : Binds K (fdOf K ("_law_due", none)) ["_law_bits_here", "_law_way", "_law_at"] [] := T.F__law_due.bindsN fun _ _ _ _ _ _ us hl => match us, hl with | [_, _, _], _ => rfl
abbrev N__law_due : List Str := ["_law_bits_here", "_law_way", "_law_at", "_law_found", "_law_place"]
theorem sc__law_due : FnScope N__law_due ["_law_bits_here", "_law_way", "_law_at"] (defScope s__law_due) := ⟨rfl, rfl, rfl, by decide +kernel, rfl, by decide +kernel, by decide +kernel⟩
abbrev s_law : Stmt := top 26
theorem Tx.F_law (T : Tx K mg) : FunD K "law" "law" (defArgs s_law) (defBody s_law) (defScope s_law) [] [] (He.fAd K ("law", none)) (fdOf K ("law", none)) := T.fd 27 rfl rfl rfl
theorem Tx.B_law (T : Tx K mg) : Binds K (fdOf K ("law", none)) ["_law_script"] [] := T.F_law.bindsN fun _ _ _ _ _ _ us hl => match us, hl with | [_], _ => rfl
abbrev N_law : List Str := ["_law_script", "_law_k", "_law_more", "_law_size", "_law_bits_here", "_law_j", "_law_row", "_law_here", "_law_way", "_law_at", "_law_before"]
theorem sc_law : FnScope N_law ["_law_script"] (defScope s_law) := ⟨rfl, rfl, rfl, by decide +kernel, rfl, by decide +kernel, by decide +kernel⟩
theorem Tx.g_needs (T : Tx K mg) : mg "needs" = some (.ref (He.ga K "needs")) := T.glo 0 rfl
theorem Tx.g_in_bits (T : Tx K mg) : mg "in_bits" = some (.ref (He.ga K "in_bits")) := T.glo 1 rfl
theorem Tx.g_out_of (T : Tx K mg) : mg "out_of" = some (.ref (He.ga K "out_of")) := T.glo 2 rfl
theorem Tx.g_need_bits (T : Tx K mg) : mg "need_bits" = some (.ref (He.ga K "need_bits")) := T.glo 3 rfl
theorem Tx.g_pack (T : Tx K mg) : mg "pack" = some (.ref (He.ga K "pack")) := T.glo 4 rfl
theorem Tx.g_need_packed (T : Tx K mg) : mg "need_packed" = some (.ref (He.ga K "need_packed")) := T.glo 5 rfl
theorem Tx.g_number_at (T : Tx K mg) : mg "number_at" = some (.ref (He.ga K "number_at")) := T.glo 6 rfl
theorem Tx.g__law_cell (T : Tx K mg) : mg "_law_cell" = some (.ref (He.ga K "_law_cell")) := T.glo 7 rfl
theorem Tx.g__law_drawn (T : Tx K mg) : mg "_law_drawn" = some (.ref (He.ga K "_law_drawn")) := T.glo 8 rfl
theorem Tx.g__law_needs (T : Tx K mg) : mg "_law_needs" = some (.ref (He.ga K "_law_needs")) := T.glo 9 rfl
theorem Tx.g__law_bits (T : Tx K mg) : mg "_law_bits" = some (.ref (He.ga K "_law_bits")) := T.glo 10 rfl
theorem Tx.g__law_asked (T : Tx K mg) : mg "_law_asked" = some (.ref (He.ga K "_law_asked")) := T.glo 11 rfl
theorem Tx.g__law_due (T : Tx K mg) : mg "_law_due" = some (.ref (He.ga K "_law_due")) := T.glo 12 rfl
theorem Tx.g_law (T : Tx K mg) : mg "law" = some (.ref (He.ga K "law")) := T.glo 13 rfl
theorem Tx.z_range (T : Tx K mg) : mg "range" = none := T.free 14 rfl
theorem Tx.z_str (T : Tx K mg) : mg "str" = none := T.free 15 rfl
theorem Tx.z_int (T : Tx K mg) : mg "int" = none := T.free 16 rfl
theorem Tx.z_all (T : Tx K mg) : mg "all" = none := T.free 17 rfl
theorem Tx.z_len (T : Tx K mg) : mg "len" = none := T.free 18 rfl
theorem Tx.z_sum (T : Tx K mg) : mg "sum" = none := T.free 19 rfl
theorem Tx.z_min (T : Tx K mg) : mg "min" = none := T.free 20 rfl
theorem Tx.z_max (T : Tx K mg) : mg "max" = none := T.free 21 rfl
theorem Tx.c_BLOCK (T : Tx K mg) : ∃ t, mg "BLOCK" = some (.int 32 t) := T.int 22 rfl
theorem Tx.c_MOST (T : Tx K mg) : ∃ t, mg "MOST" = some (.int 4096 t) := T.int 23 rfl
theorem Tx.g_TerseError (T : Tx K mg) : mg "TerseError" = some (.ref (He.ga K "TerseError")) := T.glo 24 rfl
theorem Tx.x_TerseError (T : Tx K mg) : ExcF K mg "TerseError" := ⟨T.glo 24 rfl, He.exc_ok (T.fct 25 rfl)⟩
theorem Tx.m_TerseError (T : Tx K mg) : PySem.W.exmOne K (.ref (He.ga K "TerseError")) (.ref (He.ga K "TerseError")) = some true := He.exm_ok (T.fct 26 rfl)
theorem Tx.g_BadNumber (T : Tx K mg) : mg "BadNumber" = some (.ref (He.ga K "BadNumber")) := T.glo 27 rfl
theorem Tx.x_BadNumber (T : Tx K mg) : ExcF K mg "BadNumber" := ⟨T.glo 27 rfl, He.exc_ok (T.fct 28 rfl)⟩
theorem Tx.m_BadNumber (T : Tx K mg) : PySem.W.exmOne K (.ref (He.ga K "BadNumber")) (.ref (He.ga K "TerseError")) = some true := He.exm_ok (T.fct 29 rfl)
theorem Tx.g_BadBits (T : Tx K mg) : mg "BadBits" = some (.ref (He.ga K "BadBits")) := T.glo 30 rfl
theorem Tx.x_BadBits (T : Tx K mg) : ExcF K mg "BadBits" := ⟨T.glo 30 rfl, He.exc_ok (T.fct 31 rfl)⟩
theorem Tx.m_BadBits (T : Tx K mg) : PySem.W.exmOne K (.ref (He.ga K "BadBits")) (.ref (He.ga K "TerseError")) = some true := He.exm_ok (T.fct 32 rfl)
theorem Tx.g_BadPlace (T : Tx K mg) : mg "BadPlace" = some (.ref (He.ga K "BadPlace")) := T.glo 33 rfl
theorem Tx.x_BadPlace (T : Tx K mg) : ExcF K mg "BadPlace" := ⟨T.glo 33 rfl, He.exc_ok (T.fct 34 rfl)⟩
theorem Tx.m_BadPlace (T : Tx K mg) : PySem.W.exmOne K (.ref (He.ga K "BadPlace")) (.ref (He.ga K "TerseError")) = some true := He.exm_ok (T.fct 35 rfl)
theorem Tx.g_TooMany (T : Tx K mg) : mg "TooMany" = some (.ref (He.ga K "TooMany")) := T.glo 36 rfl
theorem Tx.x_TooMany (T : Tx K mg) : ExcF K mg "TooMany" := ⟨T.glo 36 rfl, He.exc_ok (T.fct 37 rfl)⟩
theorem Tx.m_TooMany (T : Tx K mg) : PySem.W.exmOne K (.ref (He.ga K "TooMany")) (.ref (He.ga K "TerseError")) = some true := He.exm_ok (T.fct 38 rfl)
theorem Tx.g_Row (T : Tx K mg) : mg "Row" = some (.ref (He.ga K "Row")) := T.glo 39 rfl
theorem Tx.k_Row (T : Tx K mg) : Cls K (He.ga K "Row") := He.cls_ok (T.fct 40 rfl)
theorem Tx.mk_Row (T : Tx K mg) : Mk K (He.ga K "Row") (He.fAd K ("Row", some "__init__")) := He.mkr_ok (T.fct 41 rfl)
theorem Tx.n_Row_own (T : Tx K mg) : NoAttr K (He.ga K "Row") "own" := He.noat_ok (T.fct 42 rfl)
theorem Tx.n_Row_wide (T : Tx K mg) : NoAttr K (He.ga K "Row") "wide" := He.noat_ok (T.fct 43 rfl)
theorem Tx.n_Row_whole_blocks (T : Tx K mg) : NoAttr K (He.ga K "Row") "whole_blocks" := He.noat_ok (T.fct 44 rfl)
theorem Tx.n_Row_counts (T : Tx K mg) : NoAttr K (He.ga K "Row") "counts" := He.noat_ok (T.fct 45 rfl)
theorem Tx.n_Row_seen (T : Tx K mg) : NoAttr K (He.ga K "Row") "seen" := He.noat_ok (T.fct 46 rfl)
theorem Tx.M_Row_init (T : Tx K mg) : Meth K (He.ga K "Row") "__init__" (He.fAd K ("Row", some "__init__")) := He.meth_ok (T.fct 47 rfl)
theorem Tx.M_Row_need (T : Tx K mg) : Meth K (He.ga K "Row") "need" (He.fAd K ("Row", some "need")) := He.meth_ok (T.fct 48 rfl)
theorem Tx.M_Row_bits (T : Tx K mg) : Meth K (He.ga K "Row") "bits" (He.fAd K ("Row", some "bits")) := He.meth_ok (T.fct 49 rfl)
theorem Tx.M_Row_look (T : Tx K mg) : Meth K (He.ga K "Row") "look" (He.fAd K ("Row", some "look")) := He.meth_ok (T.fct 50 rfl)
theorem Tx.M_Row_bit (T : Tx K mg) : Meth K (He.ga K "Row") "bit" (He.fAd K ("Row", some "bit")) := He.meth_ok (T.fct 51 rfl)
theorem Tx.M_Row_up_to (T : Tx K mg) : Meth K (He.ga K "Row") "up_to" (He.fAd K ("Row", some "up_to")) := He.meth_ok (T.fct 52 rfl)
theorem Tx.M_Row_ones (T : Tx K mg) : Meth K (He.ga K "Row") "ones" (He.fAd K ("Row", some "ones")) := He.meth_ok (T.fct 53 rfl)
theorem Tx.M_Row_noughts (T : Tx K mg) : Meth K (He.ga K "Row") "noughts" (He.fAd K ("Row", some "noughts")) := He.meth_ok (T.fct 54 rfl)
theorem Tx.M_Row_ahead (T : Tx K mg) : Meth K (He.ga K "Row") "ahead" (He.fAd K ("Row", some "ahead")) := He.meth_ok (T.fct 55 rfl)
theorem Tx.M_Row_found_at (T : Tx K mg) : Meth K (He.ga K "Row") "found_at" (He.fAd K ("Row", some "found_at")) := He.meth_ok (T.fct 56 rfl)
theorem Tx.M_Row_one_at (T : Tx K mg) : Meth K (He.ga K "Row") "one_at" (He.fAd K ("Row", some "one_at")) := He.meth_ok (T.fct 57 rfl)
theorem Tx.M_Row_nought_at (T : Tx K mg) : Meth K (He.ga K "Row") "nought_at" (He.fAd K ("Row", some "nought_at")) := He.meth_ok (T.fct 58 rfl)
theorem Tx.M_Row_room (T : Tx K mg) : Meth K (He.ga K "Row") "room" (He.fAd K ("Row", some "room")) := He.meth_ok (T.fct 59 rfl)
theorem Tx.M_Row_looks (T : Tx K mg) : Meth K (He.ga K "Row") "looks" (He.fAd K ("Row", some "looks")) := He.meth_ok (T.fct 60 rfl)
end
end Tw

set_option maxHeartbeats 4000000
namespace Tw
open PySem PySem.Spec PyProof.Rows L2 LamX
section
variable {P : Program} {w : World} {K : PySem.W.Frag} {mg : Str → Option Value} {base : Heap}
def spNeeds (K : PySem.W.Frag) : Sp := fun vs H Q E => ∃ n : Int, vs = [.int n] ∧ (0 ≤ n → Q (.int (nd n.toNat)) H) ∧ (n < 0 → E (.ref (He.ga K "BadNumber")) none H)
theorem ok_needs (T : Tx K mg) : OkN P w K mg base ("needs", none) 1 ["number"] (spNeeds K) := by
  refine T.F_needs.ok sc_needs (fun vs H Q E h => ?_) (fun cdv A outer s H vs Q E hr h => ?_)
  · obtain ⟨n, rfl, _⟩ := h
    rfl
  · obtain ⟨n, rfl, q1, q2⟩ := h
    refine ⟨_, (pss_cons (ps_if (pt_cmpR op_lt (pv 0) pe_int (nomark _))
    (pss_one (ps_rz T.x_BadNumber rfl (by decide))) pss_nil)
    (pss_cons (ps_set (i := 1) sc_needs.nd rfl (.inl rfl) pe_int)
    (pss_cons (ps_while (passes_of rfl) (pt_cmpR op_gt (pv 0) pe_int (nomark _))
    (pss_cons (ps_set (i := 0) sc_needs.nd rfl (.inl rfl) (pe_op op_fdiv (pv 0) pe_int))
    (pss_one (ps_set (i := 1) sc_needs.nd rfl (.inl rfl) (pe_op op_add (pv 1) pe_int)))))
    (pss_one (ps_ret (pv 1)))))), ?_⟩
    refine ⟨_, rfl, _, _, rfl, rfl, _, rfl, ite2 (fun e => q2 (of_decide_eq_true e)) (fun e => ?_)⟩
    have h0 : 0 ≤ n := by simp only [decide_eq_true_eq] at e; omega
    refine ⟨fun m σ H' => ∃ c : Nat, σ = [some (.int m), some (.int c)] ∧ H' = H ∧ c + nd m = nd n.toNat, ⟨n.toNat, 0, by rw [Int.toNat_of_nonneg h0]; rfl, rfl, Nat.zero_add _⟩, fun m σ H' hW => ?_⟩
    obtain ⟨c, rfl, rfl, ec⟩ := hW
    refine ⟨_, rfl, _, _, rfl, rfl, _, rfl, ite2 (fun e => ?_) (fun e => ?_)⟩
    · have hm : 0 < m := by simp only [decide_eq_true_eq] at e; omega
      refine ⟨fun σ' H'' => ∃ m', m' < m ∧ ∃ c : Nat, σ' = [some (.int m'), some (.int c)] ∧ H'' = H' ∧ c + nd m' = nd n.toNat, fun _ _ h => h, ?_⟩
      refine ⟨_, rfl, _, _, rfl, rfl, ⟨by decide, by decide⟩, _, rfl, _, _, rfl, rfl, m / 2, by omega, c + 1, ?_, rfl, ?_⟩
      · exact rfl
      · rw [← ec, nd_pos hm]; omega
    · have hm : m = 0 := by simp only [decide_eq_true_eq] at e; omega
      subst hm
      refine ⟨_, rfl, ?_⟩
      have e0 : c = nd n.toNat := by rw [← ec, nd_zero]; rfl
      rw [e0]
      exact q1 h0
def spLNeeds : Sp := fun vs H Q _ => ∃ n : Nat, vs = [.int n] ∧ Q (.int (nd n)) H
theorem ok__law_needs (T : Tx K mg) : OkN P w K mg base ("_law_needs", none) 1 ["_law_number"] spLNeeds := by
  refine T.F__law_needs.ok sc__law_needs (fun vs H Q E h => ?_) (fun cdv A outer s H vs Q E hr h => ?_)
  · obtain ⟨n, rfl, _⟩ := h
    rfl
  · obtain ⟨n, rfl, q1⟩ := h
    refine ⟨_, (pss_cons (ps_set (i := 1) sc__law_needs.nd rfl (.inl rfl) pe_int)
    (pss_cons (ps_while (passes_of rfl) (pt_cmpR op_gt (pv 0) pe_int (nomark _))
    (pss_cons (ps_set (i := 0) sc__law_needs.nd rfl (.inl rfl) (pe_op op_fdiv (pv 0) pe_int))
    (pss_one (ps_set (i := 1) sc__law_needs.nd rfl (.inl rfl) (pe_op op_add (pv 1) pe_int)))))
    (pss_one (ps_ret (pv 1))))), ?_⟩
    refine ⟨fun m σ H' => ∃ c : Nat, σ = [some (.int m), some (.int c)] ∧ H' = H ∧ c + nd m = nd n, ⟨n, 0, rfl, rfl, Nat.zero_add _⟩, fun m σ H' hW => ?_⟩
    obtain ⟨c, rfl, rfl, ec⟩ := hW
    refine ⟨_, rfl, _, _, rfl, rfl, _, rfl, ite2 (fun e => ?_) (fun e => ?_)⟩
    · have hm : 0 < m := by simp only [decide_eq_true_eq] at e; omega
      refine ⟨fun σ' H'' => ∃ m', m' < m ∧ ∃ c : Nat, σ' = [some (.int m'), some (.int c)] ∧ H'' = H' ∧ c + nd m' = nd n, fun _ _ h => h, ?_⟩
      refine ⟨_, rfl, _, _, rfl, rfl, ⟨by decide, by decide⟩, _, rfl, _, _, rfl, rfl, m / 2, by omega, c + 1, ?_, rfl, ?_⟩
      · exact rfl
      · rw [← ec, nd_pos hm]; omega
    · have hm : m = 0 := by simp only [decide_eq_true_eq] at e; omega
      subst hm
      refine ⟨_, rfl, ?_⟩
      have e0 : c = nd n := by rw [← ec, nd_zero]; rfl
      rw [e0]
      exact q1
def spInBits : Sp := fun vs H Q _ => ∃ n w : Nat, vs = [.int n, .int w] ∧ w ≤ 100000 ∧ Q (.str (sb (bn n w))) H
theorem ok_in_bits (T : Tx K mg) : OkN P w K mg base ("in_bits", none) 1 ["number", "wide"] spInBits := by
  refine T.F_in_bits.ok sc_in_bits (fun vs H Q E h => ?_) (fun cdv A outer s H vs Q E hr h => ?_)
  · obtain ⟨n, wd, rfl, _⟩ := h
    rfl
  · obtain ⟨n, wd, rfl, hw, q⟩ := h
    refine ⟨_, (pss_cons (ps_set (i := 2) sc_in_bits.nd rfl (.inl rfl) pe_str)
    (pss_cons (ps_for (passes_of rfl) rfl (pi_range1 (by rfl) T.z_range (pa_cons (pv 1) pa_nil)) (pg_name (i := 3) sc_in_bits.nd rfl (.inl rfl))
    (pss_cons (ps_set (i := 2) sc_in_bits.nd rfl (.inl rfl) (pe_op op_add_str (pe_callTy call_str_int (by rfl) T.z_str b_str (pa_cons (pe_op op_mod (pv 0) pe_int) pa_nil)) (pv 2)))
    (pss_one (ps_set (i := 0) sc_in_bits.nd rfl (.inl rfl) (pe_op op_fdiv (pv 0) pe_int)))))
    (pss_one (ps_ret (pv 2))))), ?_⟩
    refine ⟨_, rfl, _, rfl, by omega, by omega, for_it w_range (fun i σ H' => H' = H ∧ ∃ t, σ = [some (.int ((n / 2 ^ i : Nat) : Int)), some (.int wd), some (.str (sb (bn n i))), t]) ⟨rfl, none, by rw [Nat.pow_zero, Nat.div_one, bn, ← sb_nil]; rfl⟩ (fun _ _ _ _ _ => trivial) ?_ ?_⟩
    · intro i x σ H1 H2 hi p hy
      obtain ⟨rfl, t, rfl⟩ := p
      obtain ⟨rfl, rfl⟩ := hy
      have h2 : (((n / 2 ^ i : Nat) : Int) % 2).natAbs.log2 < 1920 := by
        have : (((n / 2 ^ i : Nat) : Int) % 2).natAbs < 2 := by omega
        refine Nat.lt_of_le_of_lt (Nat.log2_le_self _) ?_
        omega
      have hi2 : i < wd := by omega
      refine ⟨_, rfl, _, _, rfl, rfl, (show (0 : Int) < 2 by decide), _, rfl, h2, _, rfl, _, _, rfl, rfl, ?_, ?_⟩
      · rw [str_bit, sb_len, sb_len, bn_len]
        exact Nat.le_trans (by show 1 + i ≤ 100001; omega) (by decide)
      · refine ⟨_, rfl, _, _, rfl, rfl, ⟨by decide, by decide⟩, rfl, some (.int (0 + i)), ?_⟩
        have e : (Str.ofString (toString (((n / 2 ^ i : Nat) : Int) % 2)) : Str) ++ sb (bn n i) = sb (bn n (i + 1)) := by
          rw [str_bit, sb_app, bn_front]
          rfl
        have e2 : (((n / 2 ^ i : Nat) : Int) / 2) = ((n / 2 ^ (i + 1) : Nat) : Int) := by
          rw [Nat.pow_succ, ← Nat.div_div_eq_div_mul]
          omega
        rw [e, ← e2]
        rfl
    · intro σ H1 p
      obtain ⟨rfl, t, rfl⟩ := p
      exact ⟨_, rfl, by rw [Int.toNat_natCast] at *; exact q⟩
theorem ok__law_bits (T : Tx K mg) : OkN P w K mg base ("_law_bits", none) 1 ["_law_number", "_law_wide"] spInBits := by
  refine T.F__law_bits.ok sc__law_bits (fun vs H Q E h => ?_) (fun cdv A outer s H vs Q E hr h => ?_)
  · obtain ⟨n, wd, rfl, _⟩ := h
    rfl
  · obtain ⟨n, wd, rfl, hw, q⟩ := h
    refine ⟨_, (pss_cons (ps_set (i := 2) sc__law_bits.nd rfl (.inl rfl) pe_str)
    (pss_cons (ps_for (passes_of rfl) rfl (pi_range1 (by rfl) T.z_range (pa_cons (pv 1) pa_nil)) (pg_name (i := 3) sc__law_bits.nd rfl (.inl rfl))
    (pss_cons (ps_set (i := 2) sc__law_bits.nd rfl (.inl rfl) (pe_op op_add_str (pe_callTy call_str_int (by rfl) T.z_str b_str (pa_cons (pe_op op_mod (pv 0) pe_int) pa_nil)) (pv 2)))
    (pss_one (ps_set (i := 0) sc__law_bits.nd rfl (.inl rfl) (pe_op op_fdiv (pv 0) pe_int)))))
    (pss_one (ps_ret (pv 2))))), ?_⟩
    refine ⟨_, rfl, _, rfl, by omega, by omega, for_it w_range (fun i σ H' => H' = H ∧ ∃ t, σ = [some (.int ((n / 2 ^ i : Nat) : Int)), some (.int wd), some (.str (sb (bn n i))), t]) ⟨rfl, none, by rw [Nat.pow_zero, Nat.div_one, bn, ← sb_nil]; rfl⟩ (fun _ _ _ _ _ => trivial) ?_ ?_⟩
    · intro i x σ H1 H2 hi p hy
      obtain ⟨rfl, t, rfl⟩ := p
      obtain ⟨rfl, rfl⟩ := hy
      have h2 : (((n / 2 ^ i : Nat) : Int) % 2).natAbs.log2 < 1920 := by
        have : (((n / 2 ^ i : Nat) : Int) % 2).natAbs < 2 := by omega
        refine Nat.lt_of_le_of_lt (Nat.log2_le_self _) ?_
        omega
      have hi2 : i < wd := by omega
      refine ⟨_, rfl, _, _, rfl, rfl, (show (0 : Int) < 2 by decide), _, rfl, h2, _, rfl, _, _, rfl, rfl, ?_, ?_⟩
      · rw [str_bit, sb_len, sb_len, bn_len]
        exact Nat.le_trans (by show 1 + i ≤ 100001; omega) (by decide)
      · refine ⟨_, rfl, _, _, rfl, rfl, ⟨by decide, by decide⟩, rfl, some (.int (0 + i)), ?_⟩
        have e : (Str.ofString (toString (((n / 2 ^ i : Nat) : Int) % 2)) : Str) ++ sb (bn n i) = sb (bn n (i + 1)) := by
          rw [str_bit, sb_app, bn_front]
          rfl
        have e2 : (((n / 2 ^ i : Nat) : Int) / 2) = ((n / 2 ^ (i + 1) : Nat) : Int) := by
          rw [Nat.pow_succ, ← Nat.div_div_eq_div_mul]
          omega
        rw [e, ← e2]
        rfl
    · intro σ H1 p
      obtain ⟨rfl, t, rfl⟩ := p
      exact ⟨_, rfl, by rw [Int.toNat_natCast] at *; exact q⟩
def spOutOf : Sp := fun vs H Q _ => ∃ l : List Bool, vs = [.str (sb l)] ∧ l.length ≤ 100000 ∧ Q (.int (vb l)) H
theorem ok_out_of (T : Tx K mg) : OkN P w K mg base ("out_of", none) 1 ["bits"] spOutOf := by
  refine T.F_out_of.ok sc_out_of (fun vs H Q E h => ?_) (fun cdv A outer s H vs Q E hr h => ?_)
  · obtain ⟨l, rfl, _⟩ := h
    rfl
  · obtain ⟨l, rfl, hl, q⟩ := h
    refine ⟨_, (pss_cons (ps_set (i := 1) sc_out_of.nd rfl (.inl rfl) pe_int)
    (pss_cons (ps_for (passes_of rfl) rfl (pi_str (pv 0)) (pg_name (i := 2) sc_out_of.nd rfl (.inl rfl))
    (pss_one (ps_set (i := 1) sc_out_of.nd rfl (.inl rfl) (pe_op op_add (pe_op op_mul pe_int (pv 1)) (pe_callTy call_int_str (by rfl) T.z_int b_int (pa_cons (pv 2) pa_nil))))))
    (pss_one (ps_ret (pv 1))))), ?_⟩
    refine ⟨_, rfl, _, rfl, for_it w_str (fun i σ H' => H' = H ∧ ∃ t, σ = [some (.str (sb l)), some (.int (vb (l.take i))), t]) ⟨rfl, none, rfl⟩ (fun _ _ _ _ _ => trivial) ?_ ?_⟩
    · intro i x σ H1 H2 hi p hy
      obtain ⟨rfl, t, rfl⟩ := p
      obtain ⟨rfl, c, hc, rfl⟩ := hy
      rw [List.getElem?_map] at hc
      obtain ⟨b, hb, rfl⟩ := Option.map_eq_some_iff.mp hc
      refine ⟨_, rfl, _, _, rfl, rfl, .inl ⟨by decide, by decide⟩, _, rfl, _, _, rfl, int_bit b, by rw [S_len]; exact (by decide : 1 ≤ 640), _, _, rfl, rfl, rfl, some (.str (S [bc b])), ?_⟩
      have e : l.take (i + 1) = l.take i ++ [b] := by rw [List.take_add_one, hb]; rfl
      rw [e, vb_snoc]
      show [_, some (V.int (2 * (vb (l.take i) : Int) + (b.toNat : Int))), _] = [_, some (V.int ((2 * vb (l.take i) + b.toNat : Nat) : Int)), _]
      rw [Int.natCast_add, Int.natCast_mul]
      rfl
    · intro σ H1 p
      obtain ⟨rfl, t, rfl⟩ := p
      rw [List.length_map, List.take_length]
      exact ⟨_, rfl, q⟩
def spNeedBits (K : PySem.W.Frag) : Sp := fun vs H Q E => ∃ z : Str, vs = [.str z] ∧ z.length ≤ 100000 ∧ (IsB z → ∀ H', Xs (tK K) H H' → Q .non H') ∧ (¬ IsB z → ∀ H', Xs (tK K) H H' → E (.ref (He.ga K "BadBits")) none H')
theorem ok_need_bits (T : Tx K mg) : OkN P w K mg base ("need_bits", none) 1 ["bits"] (spNeedBits K) := by
  refine T.F_need_bits.ok sc_need_bits (fun vs H Q E h => ?_) (fun cdv A outer s H vs Q E hr h => ?_)
  · obtain ⟨z, rfl, _⟩ := h
    rfl
  · obtain ⟨z, rfl, hl, q1, q2⟩ := h
    obtain ⟨l, rfl⟩ : ∃ l, z = S l := ⟨_, S_of z⟩
    rw [S_len] at hl
    refine ⟨_, (pss_one (ps_if (pt_not (pt_val (pe_callB (cr_allK (K := K) rfl rfl) (by rfl) T.z_all b_all (pa_cons (pe_lc (own := [("sign", 1)]) rfl sc_need_bits.nd (pi_str (pv 0)) (blkOk_by (N := N_need_bits) (sc := defScope s_need_bits) (by decide +kernel)) (fun _ _ _ _ _ => (pg_name (i := 1) sc_need_bits.nd rfl (.inl rfl))) (fun _ _ _ _ _ => pts_nil) (fun _ _ _ _ _ => (pe_cmpR op_in_sign (pv 1) pe_str (by rfl)))) pa_nil))))
    (pss_one (ps_rz T.x_BadBits rfl (by decide))) pss_nil)), ?_⟩
    refine ⟨_, rfl, _, rfl, fun D hD => lcPs (T := tK K) w_str hD (by omega) (fun _ _ => trivial) (fun i => .bl (decide (l.getD i 0 ∈ [48, 49]))) ?_ fun H1 x1 e1 => ?_⟩
    · intro i x H1 hi hy x1 Q q
      obtain ⟨c, hc, rfl⟩ := hy
      refine ⟨_, rfl, _, _, rfl, rfl, ?_⟩
      rw [signs01]
      have e : l.getD i 0 = c := by rw [List.getD_eq_getElem?_getD, hc]; rfl
      rw [e] at q
      exact q H1 Xs.refl
    · refine ⟨D, (List.range l.length).map fun i => decide (l.getD i 0 ∈ [48, 49]), rfl, SqL.of (by rw [e1, List.map_map]; rfl), _, rfl, ?_⟩
      rw [all_bits]
      refine ite2 (fun e => ?_) (fun e => ?_)
      · exact q2 (fun hb => by rw [isB_iff] at hb; rw [decide_eq_true hb] at e; cases e) H1 x1
      · refine q1 ((isB_iff l).mpr (by by_cases h : ∀ c ∈ l, c = 48 ∨ c = 49; exact h; rw [decide_eq_false h] at e; exact absurd rfl e)) H1 x1
def spPack (K : PySem.W.Frag) : Sp := fun vs H Q E => ∃ (a : Addr) (ns : List Int) (wd : Nat), vs = [.ref a, .int wd] ∧ SqL K H a (ns.map .int) ∧ ns.length ≤ 1000 ∧ wd ≤ 1000 ∧
  ((∀ n ∈ ns, 0 ≤ n ∧ nd n.toNat ≤ wd) → ∀ H', Xs (tK K) H H' → Q (.str (sb (pk (ns.map Int.toNat) wd))) H') ∧ ((∃ n ∈ ns, n < 0 ∨ wd < nd n.toNat) → ∀ H', Xs (tK K) H H' → E (.ref (He.ga K "BadNumber")) none H')
theorem ok_pack (T : Tx K mg) : OkN P w K mg base ("pack", none) 2 ["numbers", "wide"] (spPack K) := by
  refine T.F_pack.ok sc_pack (fun vs H Q E h => ?_) (fun cdv A outer s H vs Q E hr h => ?_)
  · obtain ⟨a, ns, wd, rfl, _⟩ := h
    rfl
  · obtain ⟨a, ns, wd, rfl, ha, hl, hw, q1, q2⟩ := h
    refine ⟨_, (pss_cons (ps_for (passes_of rfl) rfl (pi_listK (K := K) rfl (pv 0)) (pg_name (i := 2) sc_pack.nd rfl (.inl rfl))
    (pss_one (ps_if (pt_cmpR op_gt (pe_callS (ok_needs T) (hr.mono (by decide)) (by rfl) T.g_needs T.F_needs.kp T.B_needs psE (pa_cons (pv 2) pa_nil)) (pv 1) (nomark _))
    (pss_one (ps_rz T.x_BadNumber rfl (by decide))) pss_nil)))
    (pss_one (ps_ret (pe_joinK (K := K) rfl pe_str (pe_lc (own := [("number", 2)]) rfl sc_pack.nd (pi_listK (K := K) rfl (pv 0)) (blkOk_by (N := N_pack) (sc := defScope s_pack) (by decide +kernel)) (fun _ _ _ _ _ => (pg_name (i := 2) sc_pack.nd rfl (.inl rfl))) (fun _ _ _ _ _ => pts_nil) (fun _ _ _ _ _ => (pe_callS (ok_in_bits T) (hr.mono (by decide)) (by rfl) T.g_in_bits T.F_in_bits.kp T.B_in_bits ps0 (pa_cons (pv 2) (pa_cons (pv 1) pa_nil))))) (by rfl) (by rfl) (by rfl))))), ?_⟩
    refine ⟨_, rfl, a, rfl, ⟨_, ha⟩, for_it w_list (fun i σ H' => H' = H ∧ (∀ n ∈ ns.take i, 0 ≤ n ∧ nd n.toNat ≤ wd) ∧ ∃ t, σ = [some (.ref a), some (.int wd), t]) ⟨rfl, fun n hn => by simp at hn, none, rfl⟩ (fun i σ H' _ p => p.1 ▸ ha) ?_ ?_⟩
    · intro i x σ H1 H2 hi p hy
      obtain ⟨rfl, hp, t, rfl⟩ := p
      obtain ⟨rfl, hx⟩ := hy
      rw [List.getElem?_map] at hx
      obtain ⟨n, hn, rfl⟩ := Option.map_eq_some_iff.mp hx
      have mem : n ∈ ns := List.mem_of_getElem? hn
      refine ⟨_, rfl, n, rfl, fun h0 => ?_, fun h0 => q2 ⟨n, mem, .inl h0⟩ _ Xs.refl⟩
      refine ⟨_, rfl, _, _, rfl, rfl, _, rfl, ite2 (fun e => ?_) (fun e => ?_)⟩
      · exact q2 ⟨n, mem, .inr (by simp only [decide_eq_true_eq] at e; omega)⟩ _ Xs.refl
      · refine ⟨rfl, fun m hm => ?_, _, rfl⟩
        rw [List.take_add_one, hn, List.mem_append] at hm
        rcases hm with hm | hm
        · exact hp m hm
        · have em : m = n := by simpa using hm
          subst em
          exact ⟨h0, by simp only [decide_eq_true_eq] at e; omega⟩
    · intro σ H1 p
      obtain ⟨rfl, hp, t, rfl⟩ := p
      rw [List.length_map, List.take_length] at hp
      refine ⟨⟨_, rfl⟩, _, rfl, a, rfl, ⟨_, ha⟩, fun D hD => lcPs (T := tK K) w_list hD (by rw [List.length_map]; omega) (fun H' x => x.seq ha) (fun i => .str (sb (bn (ns.getD i 0).toNat wd))) ?_ fun H2 x2 e2 => ?_⟩
      · intro i x H2 hi hy x2 Q q
        rw [List.getElem?_map] at hy
        obtain ⟨n, hn, rfl⟩ := Option.map_eq_some_iff.mp hy
        have e : ns.getD i 0 = n := by rw [List.getD_eq_getElem?_getD, hn]; rfl
        rw [e] at q
        refine ⟨_, rfl, _, rfl, n.toNat, wd, ?_, by omega, q _ Xs.refl⟩
        rw [Int.toNat_of_nonneg (hp n (List.mem_of_getElem? hn)).1]
      · have e3 : ((List.range (ns.map V.int).length).map fun i => V.str (sb (bn (ns.getD i 0).toNat wd))) = (((ns.map Int.toNat).map fun n => bn n wd).map sb).map V.str := by
          rw [List.length_map, List.map_map, List.map_map, List.map_map]
          refine List.ext_getElem (by simp) fun i h1 h2 => ?_
          simp at h1 h2
          simp [List.getD_eq_getElem?_getD, List.getElem?_eq_getElem h1]
        refine ⟨S [], D, ((ns.map Int.toNat).map fun n => bn n wd).map sb, rfl, rfl, .inl (SqL.of (by rw [e2, e3])), ?_, ?_⟩
        · rw [sum_len, S_len]
          have e4 : (((ns.map Int.toNat).map fun n => bn n wd).map List.length).sum = ns.length * wd := by
            rw [← List.length_flatten, show ((ns.map Int.toNat).map fun n => bn n wd).flatten = pk (ns.map Int.toNat) wd from rfl, pk_len, List.length_map]
          rw [e4]
          have := Nat.mul_le_mul hl hw
          simp
          omega
        · rw [show S [] = sb [] from rfl, join_sb]
          exact q1 hp H2 x2
def Good (z : Str) (wd : Nat) : Prop := IsB z ∧ (z.length = 0 ∨ (wd ≠ 0 ∧ z.length % wd = 0))
theorem good_pk (ns : List Nat) (wd : Nat) : Good (sb (pk ns wd)) wd := by
  refine ⟨⟨_, rfl⟩, ?_⟩
  rw [sb_len, pk_len]
  rcases Nat.eq_zero_or_pos wd with h | h
  · exact .inl (by rw [h]; rfl)
  · exact .inr ⟨by omega, Nat.mul_mod_left _ _⟩
theorem unpk (ns : List Nat) (wd : Nat) (h : ∀ n ∈ ns, nd n ≤ wd) : ((List.range ((pk ns wd).length / wd)).map fun i => V.int (vb (part (pk ns wd) wd i))) = ((ns.take (ns.length * min 1 wd)).map Int.ofNat).map .int := by
  rw [pk_len]
  rcases Nat.eq_zero_or_pos wd with h0 | h0
  · subst h0
    simp
  · rw [Nat.mul_div_cancel _ h0, show min 1 wd = 1 by omega, Nat.mul_one, List.take_length, List.map_map]
    refine List.ext_getElem (by simp) fun i h1 h2 => ?_
    simp only [List.getElem_map, List.getElem_range]
    have h3 : i < ns.length := by simpa using h1
    rw [part_pk ns wd i _ (List.getElem?_eq_getElem h3), bn_vb_lt ((nd_le _ _).mp (h _ (List.getElem_mem h3)))]
    rfl
def spNeedPacked (K : PySem.W.Frag) : Sp := fun vs H Q E => ∃ (z : Str) (wd : Nat), vs = [.str z, .int wd] ∧ z.length ≤ 100000 ∧ (Good z wd → ∀ H', Xs (tK K) H H' → Q .non H') ∧ (¬ Good z wd → ∀ H', Xs (tK K) H H' → E (.ref (He.ga K "BadBits")) none H')
theorem ok_need_packed (T : Tx K mg) : OkN P w K mg base ("need_packed", none) 2 ["bits", "wide"] (spNeedPacked K) := by
  refine T.F_need_packed.ok sc_need_packed (fun vs H Q E h => ?_) (fun cdv A outer s H vs Q E hr h => ?_)
  · obtain ⟨z, wd, rfl, _⟩ := h
    rfl
  · obtain ⟨z, wd, rfl, hl, q1, q2⟩ := h
    refine ⟨_, (pss_cons (ps_expr (pe_callS (ok_need_bits T) (hr.mono (by decide)) (by rfl) T.g_need_bits T.F_need_bits.kp T.B_need_bits psE (pa_cons (pv 0) pa_nil)))
    (pss_one (ps_if (PW.pt (pw_and (pt_cmpR op_gt (pe_callB call_len_str (by rfl) T.z_len b_len (pa_cons (pv 0) pa_nil)) pe_int (nomark _)) (pw_and1 (PW.pt (pw_or (pt_cmpR op_eq (pv 1) pe_int (nomark _)) (pw_or1 (pt_cmpR op_gt (pe_op op_mod (pe_callB call_len_str (by rfl) T.z_len b_len (pa_cons (pv 0) pa_nil)) (pv 1)) pe_int (nomark _))))))))
    (pss_one (ps_rz T.x_BadBits rfl (by decide))) pss_nil))), ?_⟩
    have hz : z.length ≤ sizeLine := Nat.le_trans hl (by decide)
    refine ⟨_, rfl, z, rfl, hl, fun hb H1 x1 => ?_, fun hb H1 x1 => q2 (fun g => hb g.1) H1 x1⟩
    refine ⟨_, rfl, _, rfl, hz, _, _, rfl, rfl, _, rfl, ite2 (fun e => ?_) (fun e => ?_)⟩
    · simp only [decide_eq_true_eq] at e
      refine ⟨_, rfl, rfl, _, rfl, ite2 (fun e2 => ?_) (fun e2 => ?_)⟩
      · refine iteT (q2 (fun g => ?_) H1 x1)
        have e3 : (wd : Int) = 0 := V.int.inj (of_decide_eq_true e2)
        rcases g.2 with h | h <;> omega
      · have e3 : ¬ (wd : Int) = 0 := fun h => e2 (decide_eq_true (congrArg V.int h))
        refine ⟨_, rfl, _, rfl, hz, _, rfl, _, _, rfl, rfl, (show (0 : Int) < wd by omega), _, _, rfl, rfl, _, rfl, ite2 (fun e4 => ?_) (fun e4 => ?_)⟩
        · refine q2 (fun g => ?_) H1 x1
          simp only [decide_eq_true_eq] at e4
          rcases g.2 with h | h <;> omega
        · refine q1 ⟨hb, .inr ⟨by omega, ?_⟩⟩ H1 x1
          simp only [decide_eq_true_eq] at e4
          omega
    · simp only [decide_eq_true_eq] at e
      exact iteF (q1 ⟨hb, .inl (by omega)⟩ H1 x1)
def spNumberAt (K : PySem.W.Frag) : Sp := fun vs H Q E => ∃ (z : Str) (wd : Nat) (i : Int), vs = [.str z, .int wd, .int i] ∧ z.length ≤ 100000 ∧ wd ≤ 1000 ∧
  (∀ l (j : Nat), z = sb l → Good z wd → i = j → (j + 1) * wd ≤ l.length → l ≠ [] → ∀ H', Xs (tK K) H H' → Q (.int (vb (part l wd j))) H') ∧ (¬ Good z wd → ∀ H', Xs (tK K) H H' → E (.ref (He.ga K "BadBits")) none H') ∧
  (Good z wd → (i < 0 ∨ (z.length : Int) < (i + 1) * wd ∨ z.length = 0) → ∀ H', Xs (tK K) H H' → E (.ref (He.ga K "BadPlace")) none H')
theorem ok_number_at (T : Tx K mg) : OkN P w K mg base ("number_at", none) 3 ["bits", "wide", "place"] (spNumberAt K) := by
  refine T.F_number_at.ok sc_number_at (fun vs H Q E h => ?_) (fun cdv A outer s H vs Q E hr h => ?_)
  · obtain ⟨z, wd, i, rfl, _⟩ := h
    rfl
  · obtain ⟨z, wd, i, rfl, hl, hw, q1, q2, q3⟩ := h
    refine ⟨_, (pss_cons (ps_expr (pe_callS (ok_need_packed T) (hr.mono (by decide)) (by rfl) T.g_need_packed T.F_need_packed.kp T.B_need_packed psE (pa_cons (pv 0) (pa_cons (pv 1) pa_nil))))
    (pss_cons (ps_if (PW.pt (pw_or (pt_not (pt_cmpR op_le pe_int (pv 2) (nomark _))) (pw_or (pt_cmpR op_gt (pe_op op_mul (pe_op op_add (pv 2) pe_int) (pv 1)) (pe_callB call_len_str (by rfl) T.z_len b_len (pa_cons (pv 0) pa_nil)) (nomark _)) (pw_or1 (pt_cmpR op_eq (pv 0) pe_str (nomark _))))))
    (pss_one (ps_rz T.x_BadPlace rfl (by decide))) pss_nil)
    (pss_one (ps_ret (pe_callS (ok_out_of T) (hr.mono (by decide)) (by rfl) T.g_out_of T.F_out_of.kp T.B_out_of psE (pa_cons (pe_slice sl_str (pv 0) (po_some (pe_op op_mul (pv 2) (pv 1))) (po_some (pe_op op_add (pe_op op_mul (pv 2) (pv 1)) (pv 1)))) pa_nil)))))), ?_⟩
    refine ⟨_, rfl, _, rfl, z, wd, rfl, hl, fun g H1 x1 => ?_, fun g H1 x1 => q2 g H1 x1⟩
    obtain ⟨l, rfl⟩ := g.1
    have hz : (sb l).length ≤ sizeLine := Nat.le_trans hl (by decide)
    have bad : (i < 0 ∨ ((sb l).length : Int) < (i + 1) * wd ∨ (sb l).length = 0) → E (.ref (He.ga K "BadPlace")) none H1 := fun h => q3 g h H1 x1
    refine ⟨_, rfl, _, _, rfl, rfl, _, rfl, ite2 (fun e => ?_) (fun e => ?_)⟩
    · simp only [Bool.not_eq_true', decide_eq_false_iff_not] at e
      exact iteT (bad (.inl (by omega)))
    · simp only [Bool.not_eq_true', decide_eq_false_iff_not] at e
      refine ⟨_, rfl, _, _, rfl, rfl, _, rfl, _, _, rfl, rfl, .inr ⟨by omega, by omega⟩, _, rfl, _, rfl, hz, _, _, rfl, rfl, _, rfl, ite2 (fun e2 => ?_) (fun e2 => ?_)⟩
      · simp only [decide_eq_true_eq] at e2
        exact iteT (bad (.inr (.inl e2)))
      · simp only [decide_eq_true_eq] at e2
        refine ⟨_, rfl, rfl, _, rfl, ite2 (fun e3 => ?_) (fun e3 => ?_)⟩
        · refine bad (.inr (.inr ?_))
          have e4 := V.str.inj (of_decide_eq_true e3)
          rw [e4]
          decide +kernel
        · obtain ⟨j, rfl⟩ : ∃ j : Nat, i = j := ⟨i.toNat, by omega⟩
          have hne : l ≠ [] := fun h => e3 (by rw [h, sb_nil]; exact decide_eq_true rfl)
          have hle : (j + 1) * wd ≤ l.length := by
            rw [sb_len] at e2
            have : (((j + 1) * wd : Nat) : Int) ≤ (l.length : Int) := by rw [Int.natCast_mul, Int.natCast_add]; exact Int.not_lt.mp e2
            omega
          refine ⟨_, rfl, ⟨_, rfl, _, rfl, _, _, rfl, rfl, .inr ⟨by omega, by omega⟩, _, rfl, ⟨_, rfl, _, rfl, _, _, rfl, rfl, .inr ⟨by omega, by omega⟩, _, rfl, _, _, rfl, rfl, _, rfl, sb l, rfl, hz, part l wd j, ?_, ?_, q1 l j rfl g rfl hle hne H1 x1⟩⟩⟩
          · show [V.str (cutS (sb l) (some ((j : Int) * (wd : Int))) (some ((j : Int) * (wd : Int) + (wd : Int))))] = _
            rw [← Int.natCast_mul, ← Int.natCast_add, cut_sb]
            rfl
          · unfold part
            rw [List.length_drop, List.length_take]
            rw [sb_len] at hl
            omega
end
end Tw

set_option maxHeartbeats 4000000
namespace Tw
open PySem PySem.Spec PyProof.Rows L2 LamX
def spDrawn : Sp := fun vs H Q _ => ∃ c k : Int, vs = [.int c, .int k] ∧ 0 ≤ k ∧ k ≤ 1000000 ∧ Q (.int (dr c k)) H
section
variable {P : Program} {w : World} {K : PySem.W.Frag} {mg : Str → Option Value} {base : Heap}
theorem ok__law_drawn (T : Tx K mg) : OkN P w K mg base ("_law_drawn", none) 1 ["_law_cell_here", "_law_k"] spDrawn := by
  refine T.F__law_drawn.ok sc__law_drawn (fun vs H Q E h => ?_) (fun cdv A outer s H vs Q E hr h => ?_)
  · obtain ⟨c, k, rfl, _⟩ := h
    rfl
  · obtain ⟨c, k, rfl, h0, hk, q⟩ := h
    refine ⟨_, (pss_cons (ps_set (i := 2) sc__law_drawn.nd rfl (.inl rfl) (pe_op op_mod (pe_op op_add (pe_op op_mul (pv 0) pe_int) (pe_op op_mul (pe_op op_add (pv 1) pe_int) pe_int)) pe_int))
    (pss_cons (ps_set (i := 2) sc__law_drawn.nd rfl (.inl rfl) (pe_op op_mod (pe_op op_mulW (pv 2) (pv 2)) pe_int))
    (pss_cons (ps_set (i := 2) sc__law_drawn.nd rfl (.inl rfl) (pe_op op_mulW (pe_op op_mulW (pe_op op_add (pe_op op_mod (pv 2) pe_int) pe_int) (pe_op op_add (pe_op op_fdivW (pv 2) pe_int) pe_int)) (pv 2)))
    (pss_one (ps_ret (pe_op op_mod (pv 2) pe_int)))))), ?_⟩
    refine ⟨_, rfl, _, _, rfl, rfl, .inr ⟨by decide, by decide⟩, _, rfl, _, _, rfl, rfl, _, _, rfl, rfl, .inr ⟨by decide, by decide⟩, _, _, rfl, rfl, _, _, rfl, rfl, (show (0 : Int) < pA by decide), ?_⟩
    refine ⟨_, rfl, _, rfl, _, _, rfl, rfl, wide_mul (a := 129) (b := 129) (dr1_abs c k) (dr1_abs c k) (by decide) (by decide) (by decide), _, _, rfl, rfl, (show (0 : Int) < pB by decide), ?_⟩
    refine ⟨_, rfl, _, _, rfl, rfl, (show (0 : Int) < pC by decide), _, _, rfl, rfl, _, rfl, _, _, rfl, rfl, (wide_div (b := 64) (by decide) (by decide) (by decide) (by decide)), _, _, rfl, rfl, _, _, rfl, rfl, ?_, _, rfl, _, _, rfl, rfl, ?_, ?_⟩
    · exact wide_mul (a := 65) (b := 129) (dr2_a c k) (dr2_b c k) (by decide) (by decide) (by decide)
    · exact wide_mul (a := 194) (b := 129) (wide_lt (a := 65) (b := 129) (dr2_a c k) (dr2_b c k)) (dr2_abs c k) (by decide) (by decide) (by decide)
    exact ⟨_, rfl, _, _, rfl, rfl, (show (0 : Int) < pA by decide), q⟩
def spCell (K : PySem.W.Frag) : Sp := fun vs H Q _ => ∃ (a : Addr) (ns : List Int) (k : Nat), vs = [.ref a, .int k] ∧ SqL K H a (ns.map .int) ∧ k ≤ 1000000 ∧ ns.length ≤ 1000000 ∧ ∀ H', Xt (tK K) H H' → Q (.int (cellV ns k)) H'
theorem ok__law_cell (T : Tx K mg) : OkN P w K mg base ("_law_cell", none) 1 ["_law_script", "_law_k"] (spCell K) := by
  refine T.F__law_cell.ok sc__law_cell (fun vs H Q E h => ?_) (fun cdv A outer s H vs Q E hr h => ?_)
  · obtain ⟨a, ns, k, rfl, _⟩ := h
    rfl
  · obtain ⟨a, ns, k, rfl, ha, hk, hl, q⟩ := h
    refine ⟨_, (pss_cons (ps_if (pt_cmpR (op_eqDK (K := K) rfl hr.units) (pv 0) (pe_lst pa_nil) (nomark _))
    (pss_one (ps_ret (pe_op op_mul (pv 1) pe_int))) pss_nil)
    (pss_one (ps_ret (pe_op op_add (pe_ix (ix_listK (K := K) rfl) (pv 0) (pe_op op_mod (pv 1) (pe_callB (call_len_seqK (K := K) rfl) (by rfl) T.z_len b_len (pa_cons (pv 0) pa_nil))) (fun _ _ => rfl)) (pe_op op_mul (pe_op op_fdivW (pv 1) (pe_callB (call_len_seqK (K := K) rfl) (by rfl) T.z_len b_len (pa_cons (pv 0) pa_nil))) pe_int))))), ?_⟩
    refine ⟨_, rfl, by decide, fun p hp => ?_⟩
    have x : Xt (tK K) H (upd H p (.lst [])) := Xt.new hp
    refine eqD_of (d := .list (ns.map .int)) (e := .list (([] : List Int).map .int)) (dp_ints (x.seq ha)) (dp_ints (SqL.of (by rw [upd_same]; rfl))) sh_ints sh_ints ?_
    rw [eqv_ints]
    unfold cellV at q
    by_cases h0 : ns = []
    · rw [if_pos h0] at q
      rw [decide_eq_true h0]
      exact ⟨_, rfl, iteT ⟨_, rfl, _, _, rfl, rfl, .inr ⟨by decide, by decide⟩, q _ x⟩⟩
    · rw [if_neg h0] at q
      rw [decide_eq_false h0]
      have hn : 0 < ns.length := List.length_pos_iff.mpr h0
      have em : (k : Int) % ((ns.map V.int).length : Int) = ((k % ns.length : Nat) : Int) := by rw [List.length_map]; exact (Int.natCast_emod _ _).symm
      have ed : (k : Int) / ((ns.map V.int).length : Int) = ((k / ns.length : Nat) : Int) := by rw [List.length_map]; exact (Int.natCast_ediv _ _).symm
      have hm : k % ns.length < ns.length := Nat.mod_lt _ hn
      refine ⟨_, rfl, iteF ⟨_, rfl, _, rfl, _, rfl, _, _, rfl, .inl (x.seq ha), _, _, rfl, rfl, ?_, _, _, _, .int (ns.getD (k % ns.length) 0), rfl, rfl, x.seq ha, ?_, _, rfl, _, rfl, _, _, rfl, .inl (x.seq ha), _, _, rfl, rfl, ?_, _, _, rfl, rfl, .inr ⟨by decide, by decide⟩, _, _, rfl, rfl, ?_⟩⟩
      · show (0 : Int) < ((ns.map V.int).length : Int)
        rw [List.length_map]
        omega
      · rw [em]
        refine atI_nat ?_
        rw [List.getElem?_map, List.getD_eq_getElem?_getD, List.getElem?_eq_getElem hm]
        rfl
      · refine wide_div (b := 20) ?_ ?_ (by decide) (by decide)
        · rw [List.length_map]
          omega
        · rw [List.length_map]
          omega
      · rw [ed]
        exact q _ x
end
end Tw

set_option maxHeartbeats 4000000
namespace Tw
open PySem PySem.Spec PyProof.Rows L2 LamX
section
variable {P : Program} {w : World} {K : PySem.W.Frag} {mg : Str → Option Value} {base : Heap}
/-! ### a row -/
def cts (l : List Bool) : List Nat := (List.range (l.length / 32)).map fun j => cn true l ((j + 1) * 32)
def rowF (l : List Bool) : List (Str × V) := [("own", .str (sb l)), ("wide", .int (nd l.length)), ("whole_blocks", .int ((l.length / 32 : Nat) : Int)), ("counts", .str (sb (pk (cts l) (nd l.length))))]
def RowAt (K : PySem.W.Frag) (H : Hp) (r : Addr) (l : List Bool) (n : Int) : Prop := l.length ≤ 4096 ∧ ∃ dx, H r = some (.ins (He.ga K "Row") dx (rowF l ++ sn n))
theorem RowAt.xs {H H' : Hp} {r : Addr} {l : List Bool} {n : Int} {T : List (Addr × Str)} (h : RowAt K H r l n) (x : Xs T H H') : RowAt K H' r l n := ⟨h.1, h.2.choose, x.same h.2.choose_spec fun ps z => by cases z⟩
theorem RowAt.xt {H H' : Hp} {r : Addr} {l : List Bool} {n : Int} {T : List (Addr × Str)} (h : RowAt K H r l n) (x : Xt T H H') : ∃ n', RowAt K H' r l n' := by
  obtain ⟨hl, dx, e⟩ := h
  obtain ⟨n', e2⟩ := x.insSeen e
  exact ⟨n', hl, dx, e2⟩
theorem RowAt.see {H : Hp} {r : Addr} {l : List Bool} {n n' : Int} {T : List (Addr × Str)} {dx : Addr} (h : H r = some (.ins (He.ga K "Row") dx (rowF l ++ sn n))) (hl : l.length ≤ 4096) : Xt T H (upd H r (.ins (He.ga K "Row") dx (rowF l ++ sn n'))) ∧ RowAt K (upd H r (.ins (He.ga K "Row") dx (rowF l ++ sn n'))) r l n' := ⟨.see trivial h, hl, dx, upd_same ..⟩
theorem own_len {l : List Bool} (h : l.length ≤ 4096) : (sb l).length ≤ sizeLine := by rw [sb_len]; exact Nat.le_trans h (by decide)
def spNeed (K : PySem.W.Frag) : Sp := fun vs H Q E => ∃ (r : Addr) (b : Bool), vs = [.ref r, .bl b] ∧ (b = true → Q .non H) ∧ (b = false → E (.ref (He.ga K "BadPlace")) none H)
theorem ok_Row_need (T : Tx K mg) : OkN P w K mg base ("Row", some "need") 1 ["self", "good"] (spNeed K) := by
  refine T.F_Row_need.ok sc_Row_need (fun vs H Q E h => ?_) (fun cdv A outer s H vs Q E hr h => ?_)
  · obtain ⟨r, b, rfl, _⟩ := h
    rfl
  · obtain ⟨r, b, rfl, q1, q2⟩ := h
    refine ⟨_, (pss_one (ps_if (pt_not (pt_val (pv 1)))
    (pss_one (ps_rz T.x_BadPlace rfl (by decide))) pss_nil)), ?_⟩
    cases b with
    | true => exact ⟨_, rfl, true, rfl, iteF (q1 rfl)⟩
    | false => exact ⟨_, rfl, false, rfl, iteT (q2 rfl)⟩
def spBits (K : PySem.W.Frag) : Sp := fun vs H Q E => ∃ (r : Addr) (l : List Bool) (n : Int), vs = [.ref r] ∧ RowAt K H r l n ∧ Q (.str (sb l)) H
theorem ok_Row_bits (T : Tx K mg) : OkN P w K mg base ("Row", some "bits") 1 ["self"] (spBits K) := by
  refine T.F_Row_bits.ok sc_Row_bits (fun vs H Q E h => ?_) (fun cdv A outer s H vs Q E hr h => ?_)
  · obtain ⟨r, l, n, rfl, _⟩ := h
    rfl
  · obtain ⟨r, l, n, rfl, ⟨hl, dx, e⟩, q⟩ := h
    refine ⟨_, (pss_one (ps_ret (pe_fldK (K := K) rfl (pv 0) (by rfl)))), ?_⟩
    exact ⟨_, rfl, r, _, dx, _, _, rfl, e, T.k_Row, T.n_Row_own, rfl, q⟩
def spLook (K : PySem.W.Frag) : Sp := fun vs H Q E => ∃ (r : Addr) (l : List Bool) (n : Int) (p : Nat) (b : Bool), vs = [.ref r, .int p] ∧ RowAt K H r l n ∧ l[p]? = some b ∧ ∀ H', Xt (tK K) H H' → RowAt K H' r l (n + 1) → Q (.int b.toNat) H'
theorem ok_Row_look (T : Tx K mg) : OkN P w K mg base ("Row", some "look") 1 ["self", "place"] (spLook K) := by
  refine T.F_Row_look.ok sc_Row_look (fun vs H Q E h => ?_) (fun cdv A outer s H vs Q E hr h => ?_)
  · obtain ⟨r, l, n, p, b, rfl, _⟩ := h
    rfl
  · obtain ⟨r, l, n, p, b, rfl, ⟨hl, dx, e⟩, hb, q⟩ := h
    refine ⟨_, (pss_cons (ps_fld (pv 0) (pe_op op_add (pe_fldK (K := K) rfl (pv 0) (by rfl)) pe_int) rfl)
    (pss_one (ps_ret (pe_callTy call_int_str (by rfl) T.z_int b_int (pa_cons (pe_ix ix_str (pe_fldK (K := K) rfl (pv 0) (by rfl)) (pv 1) (fun _ _ => rfl)) pa_nil))))), ?_⟩
    refine ⟨_, rfl, r, _, dx, _, _, rfl, e, T.k_Row, T.n_Row_seen, rfl, _, _, rfl, rfl, _, rfl, r, _, dx, _, rfl, e, T.k_Row, T.n_Row_seen, by exact (by decide : 5 < 1000), ?_⟩
    obtain ⟨x1, r1⟩ := RowAt.see (T := tK K) (n' := n + 1) e hl
    have e1 := upd_same (H := H) (a := r) (o := .ins (He.ga K "Row") dx (rowF l ++ sn (n + 1)))
    refine ⟨_, rfl, r, _, dx, _, _, rfl, e1, T.k_Row, T.n_Row_own, rfl, _, rfl, sb l, _, bc b, rfl, rfl, own_len hl, atI_nat ?_, _, _, rfl, int_bit b, by exact (by decide : 1 ≤ 640), q _ x1 r1⟩
    show (l.map bc)[p]? = _
    rw [List.getElem?_map, hb]
    rfl
def spBit (K : PySem.W.Frag) : Sp := fun vs H Q E => ∃ (r : Addr) (l : List Bool) (n p : Int), vs = [.ref r, .int p] ∧ RowAt K H r l n ∧ (∀ (j : Nat) b, p = j → l[j]? = some b → ∀ H', Xt (tK K) H H' → RowAt K H' r l (n + 1) → Q (.int b.toNat) H') ∧ ((p < 0 ∨ l.length ≤ p) → E (.ref (He.ga K "BadPlace")) none H)
theorem ok_Row_bit (T : Tx K mg) : OkN P w K mg base ("Row", some "bit") 2 ["self", "place"] (spBit K) := by
  refine T.F_Row_bit.ok sc_Row_bit (fun vs H Q E h => ?_) (fun cdv A outer s H vs Q E hr h => ?_)
  · obtain ⟨r, l, n, p, rfl, _⟩ := h
    rfl
  · obtain ⟨r, l, n, p, rfl, ⟨hl, dx, e⟩, q1, q2⟩ := h
    refine ⟨_, (pss_cons (ps_expr (pe_meth (dvs := []) (pv 0) T.k_Row T.M_Row_need (ok_Row_need T) (hr.mono (by decide)) T.B_Row_need .nil psP (pa_cons (pe_chain op_le op_lt pe_int (pv 1) (pe_callB call_len_str (by rfl) T.z_len b_len (pa_cons (pe_fldK (K := K) rfl (pv 0) (by rfl)) pa_nil))) pa_nil)))
    (pss_one (ps_ret (pe_meth (dvs := []) (pv 0) T.k_Row T.M_Row_look (ok_Row_look T) (hr.mono (by decide)) T.B_Row_look .nil psP (pa_cons (pv 1) pa_nil))))), ?_⟩
    refine ⟨_, rfl, r, dx, _, rfl, e, rfl, _, rfl, _, _, rfl, rfl, _, rfl, ite2 (fun h0 => ?_) (fun h0 => ?_)⟩
    · simp only [decide_eq_true_eq] at h0
      refine ⟨_, rfl, r, _, dx, _, _, rfl, e, T.k_Row, T.n_Row_own, rfl, _, rfl, own_len hl, _, _, rfl, rfl, r, _, rfl, fun h1 => ?_, fun h1 => ?_⟩
      · have h1 := of_decide_eq_true h1
        rw [sb_len] at h1
        obtain ⟨j, rfl⟩ : ∃ j : Nat, p = j := ⟨p.toNat, by omega⟩
        have hj : j < l.length := by omega
        have hb : l[j]? = some l[j] := List.getElem?_eq_getElem hj
        exact ⟨_, rfl, r, dx, _, rfl, e, rfl, _, rfl, r, l, n, j, l[j], rfl, ⟨hl, dx, e⟩, hb, fun H' x' r' => q1 j _ rfl hb H' x' r'⟩
      · have h1 := of_decide_eq_false h1
        rw [sb_len] at h1
        exact q2 (.inr (by omega))
    · simp only [decide_eq_true_eq] at h0
      exact ⟨r, false, rfl, fun z => (nomatch z), fun _ => q2 (.inl (by omega))⟩
theorem cts_get {l : List Bool} {j : Nat} (h : j < l.length / 32) : (cts l)[j]? = some (cn true l ((j + 1) * 32)) := by
  unfold cts
  rw [List.getElem?_map, List.getElem?_range h]
  rfl
theorem cts_len (l : List Bool) : (cts l).length = l.length / 32 := by unfold cts; rw [List.length_map, List.length_range]
theorem nd_len {l : List Bool} (h : l.length ≤ 4096) : nd l.length ≤ 13 := (nd_le _ _).mpr (by omega)
def spUpTo (K : PySem.W.Frag) : Sp := fun vs H Q E => ∃ (r : Addr) (l : List Bool) (n : Int) (c : Nat), vs = [.ref r, .int c] ∧ RowAt K H r l n ∧ c ≤ l.length / 32 ∧ ∀ H', Xs (tK K) H H' → Q (.int (cn true l (c * 32))) H'
theorem ok_Row_up_to (T : Tx K mg) : OkN P w K mg base ("Row", some "up_to") 4 ["self", "block"] (spUpTo K) := by
  refine T.F_Row_up_to.ok sc_Row_up_to (fun vs H Q E h => ?_) (fun cdv A outer s H vs Q E hr h => ?_)
  · obtain ⟨r, l, n, c, rfl, _⟩ := h
    rfl
  · obtain ⟨r, l, n, c, rfl, ⟨hl, dx, e⟩, hc, q⟩ := h
    refine ⟨_, (pss_cons (ps_if (pt_cmpR op_eq (pv 1) pe_int (nomark _))
    (pss_one (ps_ret pe_int)) pss_nil)
    (pss_one (ps_ret (pe_callS (ok_number_at T) (hr.mono (by decide)) (by rfl) T.g_number_at T.F_number_at.kp T.B_number_at psE (pa_cons (pe_fldK (K := K) rfl (pv 0) (by rfl)) (pa_cons (pe_fldK (K := K) rfl (pv 0) (by rfl)) (pa_cons (pe_op op_sub (pv 1) pe_int) pa_nil))))))), ?_⟩
    refine ⟨_, rfl, rfl, _, rfl, ite2 (fun h0 => ?_) (fun h0 => ?_)⟩
    · have h0 := V.int.inj (of_decide_eq_true h0)
      have h0 : c = 0 := by omega
      subst h0
      exact q H .refl
    · have h0 : c ≠ 0 := fun z => h0 (decide_eq_true (by rw [z]; rfl))
      have hw := nd_len hl
      have hlen : (sb (pk (cts l) (nd l.length))).length = l.length / 32 * nd l.length := by rw [sb_len, pk_len, cts_len]
      have hsz : l.length / 32 * nd l.length ≤ 100000 := Nat.le_trans (Nat.mul_le_mul (show l.length / 32 ≤ 128 by omega) hw) (by decide)
      have hl0 : 0 < l.length := by omega
      have hnd : 0 < nd l.length := (nd_lo2 hl0)
      have hj : (c - 1) < l.length / 32 := by omega
      have hle : (c - 1 + 1) * nd l.length ≤ l.length / 32 * nd l.length := Nat.mul_le_mul_right _ hj
      have hpos : 0 < l.length / 32 * nd l.length := Nat.mul_pos (by omega) hnd
      refine ⟨_, rfl, r, _, dx, _, _, rfl, e, T.k_Row, T.n_Row_counts, rfl, _, rfl, r, _, dx, _, _, rfl, e, T.k_Row, T.n_Row_wide, rfl, _, rfl, _, _, rfl, rfl, _, nd l.length, (c : Int) - 1, rfl, by rw [hlen]; exact hsz, by omega, fun l' j e1 g ej hj2 hne H' x' => ?_, fun g => absurd (good_pk _ _) g, fun _ hb => ?_⟩
      · have e1 := sb_inj e1
        subst e1
        have ej : j = c - 1 := by omega
        subst ej
        rw [part_pk _ _ _ _ (cts_get hj), bn_vb_lt, show c - 1 + 1 = c by omega]
        · exact q H' x'
        · refine (nd_le _ _).mp (Nat.le_trans ?_ (Nat.le_refl _))
          refine (nd_le _ _).mpr ?_
          have h1 : cn true l ((c - 1 + 1) * 32) ≤ (c - 1 + 1) * 32 := cn_le
          have h2 : l.length < 2 ^ nd l.length := (nd_le _ _).mp (Nat.le_refl _)
          omega
      · exfalso
        rw [hlen] at hb
        have e2 : ((c : Int) - 1 + 1) * ((nd l.length : Nat) : Int) = (((c - 1 + 1) * nd l.length : Nat) : Int) := by
          rw [Int.natCast_mul]
          congr 1
          omega
        rw [e2] at hb
        omega
def spOnes (K : PySem.W.Frag) : Sp := fun vs H Q E => ∃ (r : Addr) (l : List Bool) (n p : Int), vs = [.ref r, .int p] ∧ RowAt K H r l n ∧ (∀ (j : Nat), p = j → j ≤ l.length → ∀ H', Xt (tK K) H H' → RowAt K H' r l (n + (j % 32 : Nat)) → Q (.int (cn true l j)) H') ∧ ((p < 0 ∨ l.length < p) → E (.ref (He.ga K "BadPlace")) none H)
theorem ok_Row_ones (T : Tx K mg) : OkN P w K mg base ("Row", some "ones") 5 ["self", "place"] (spOnes K) := by
  refine T.F_Row_ones.ok sc_Row_ones (fun vs H Q E h => ?_) (fun cdv A outer s H vs Q E hr h => ?_)
  · obtain ⟨r, l, n, p, rfl, _⟩ := h
    rfl
  · obtain ⟨r, l, n, p, rfl, ⟨hl, dx, e⟩, q1, q2⟩ := h
    refine ⟨_, (pss_cons (ps_expr (pe_meth (dvs := []) (pv 0) T.k_Row T.M_Row_need (ok_Row_need T) (hr.mono (by decide)) T.B_Row_need .nil psP (pa_cons (pe_chain op_le op_le pe_int (pv 1) (pe_callB call_len_str (by rfl) T.z_len b_len (pa_cons (pe_fldK (K := K) rfl (pv 0) (by rfl)) pa_nil))) pa_nil)))
    (pss_cons (ps_set (i := 2) sc_Row_ones.nd rfl (.inl rfl) (pe_op op_fdivW (pv 1) (pe_glob (v := .int _) (by rfl) T.c_BLOCK.choose_spec ⟨_, rfl⟩)))
    (pss_one (ps_ret (pe_op op_add (pe_meth (dvs := []) (pv 0) T.k_Row T.M_Row_up_to (ok_Row_up_to T) (hr.mono (by decide)) T.B_Row_up_to .nil psP (pa_cons (pv 2) pa_nil)) (pe_callB (cr_sumK (K := K) rfl rfl) (by rfl) T.z_sum b_sum (pa_cons (pe_lc (own := [("at", 3)]) rfl sc_Row_ones.nd (pi_range2 (by rfl) T.z_range (pa_cons (pe_op op_mul (pv 2) (pe_glob (v := .int _) (by rfl) T.c_BLOCK.choose_spec ⟨_, rfl⟩)) (pa_cons (pv 1) pa_nil))) (blkOk_by (N := N_Row_ones) (sc := defScope s_Row_ones) (by decide +kernel)) (fun _ _ _ _ _ => (pg_name (i := 3) sc_Row_ones.nd rfl (.inl rfl))) (fun _ _ _ _ _ => pts_nil) (fun _ _ _ _ _ => (pe_meth (dvs := []) (pv 0) T.k_Row T.M_Row_look (ok_Row_look T) (hr.mono (by decide)) T.B_Row_look .nil psP0 (pa_cons (pv 3) pa_nil)))) pa_nil))))))), ?_⟩
    refine ⟨_, rfl, r, dx, _, rfl, e, rfl, _, rfl, _, _, rfl, rfl, _, rfl, ite2 (fun h0 => ?_) (fun h0 => ?_)⟩
    · simp only [decide_eq_true_eq] at h0
      refine ⟨_, rfl, r, _, dx, _, _, rfl, e, T.k_Row, T.n_Row_own, rfl, _, rfl, own_len hl, _, _, rfl, rfl, r, _, rfl, fun h1 => ?_, fun h1 => ?_⟩
      · have h1 := of_decide_eq_true h1
        rw [sb_len] at h1
        obtain ⟨j, rfl⟩ : ∃ j : Nat, p = j := ⟨p.toNat, by omega⟩
        have hj : j ≤ l.length := by omega
        refine ⟨_, rfl, _, _, rfl, rfl, wide_div (b := 6) (by decide) (by decide) (by decide) (by decide), ?_⟩
        have ed : (j : Int) / 32 = ((j / 32 : Nat) : Int) := by omega
        show gName 2 (V.int ((j : Int) / 32)) _ _ _
        rw [ed]
        refine ⟨_, rfl, r, dx, _, rfl, e, rfl, _, rfl, r, l, n, j / 32, rfl, ⟨hl, dx, e⟩, by omega, fun H1 x1 => ?_⟩
        have r1 := RowAt.xs ⟨hl, dx, e⟩ x1
        have hne : ∀ D, H1 D = none → r ≠ D := fun D hD z => by
          obtain ⟨_, dx1, e1⟩ := r1
          rw [z, hD] at e1
          cases e1
        refine ⟨_, rfl, _, _, rfl, rfl, .inl ⟨by omega, by omega⟩, _, rfl, _, _, rfl, ⟨by omega, by omega, by omega, by omega⟩, fun D hD => lcI (lo := True) (T := tK K) (fun i H' => RowAt K H' r l (n + (i : Nat))) w_range hD (by omega) (fun _ _ _ _ => trivial) (by rw [show n + ((0 : Nat) : Int) = n by omega]; exact r1) (fun i H' xs _ h => ⟨h.1, h.2.choose, by rw [upd_ne (hne D hD)]; exact h.2.choose_spec⟩) (fun i => .int ((l.getD (j / 32 * 32 + i) false).toNat : Nat)) ?_ fun H2 x2 r2 e2 => ?_⟩
        · intro i x H2 hi hy x2 r2 Q q
          have ex : ((j / 32 : Nat) : Int) * 32 + (i : Int) = ((j / 32 * 32 + i : Nat) : Int) := by omega
          rw [ex] at hy
          subst hy
          have hb : l[j / 32 * 32 + i]? = some l[j / 32 * 32 + i] := List.getElem?_eq_getElem (by omega)
          have eg : l.getD (j / 32 * 32 + i) false = l[j / 32 * 32 + i] := by rw [List.getD_eq_getElem?_getD, hb]; rfl
          rw [eg] at q
          obtain ⟨_, dx2, e2⟩ := r2
          refine ⟨_, rfl, r, dx2, _, rfl, e2, rfl, _, rfl, r, l, n + (i : Nat), _, _, rfl, ⟨hl, dx2, e2⟩, hb, fun H3 x3 r3 => q H3 x3 ?_⟩
          rw [show n + ((i + 1 : Nat) : Int) = n + (i : Int) + 1 by omega]
          exact r3
        · have ek : ((j : Int) - ((j / 32 : Nat) : Int) * 32).toNat = j % 32 := by omega
          rw [ek] at e2 r2
          refine ⟨D, (List.range (j % 32)).map fun i => (((l.getD (j / 32 * 32 + i) false).toNat : Nat) : Int), rfl, SqL.of (by rw [e2, List.map_map]; rfl), _, _, rfl, rfl, ?_⟩
          rw [sum_bits l (j / 32 * 32) (j % 32) (by omega), show j / 32 * 32 + j % 32 = j by omega]
          show Q (.int (((cn true l (j / 32 * 32) : Nat) : Int) + (((cn true l j : Nat) : Int) - ((cn true l (j / 32 * 32) : Nat) : Int)))) H2
          rw [show ((cn true l (j / 32 * 32) : Nat) : Int) + (((cn true l j : Nat) : Int) - ((cn true l (j / 32 * 32) : Nat) : Int)) = ((cn true l j : Nat) : Int) by omega]
          exact q1 j rfl hj H2 (x1.up.trans x2) r2
      · have h1 := of_decide_eq_false h1
        rw [sb_len] at h1
        exact q2 (.inr (by omega))
    · simp only [decide_eq_true_eq] at h0
      exact ⟨r, false, rfl, fun z => (nomatch z), fun _ => q2 (.inl (by omega))⟩
def spNoughts (K : PySem.W.Frag) : Sp := fun vs H Q E => ∃ (r : Addr) (l : List Bool) (n p : Int), vs = [.ref r, .int p] ∧ RowAt K H r l n ∧ (∀ (j : Nat), p = j → j ≤ l.length → ∀ H', Xt (tK K) H H' → RowAt K H' r l (n + (j % 32 : Nat)) → Q (.int (cn false l j)) H') ∧ ((p < 0 ∨ l.length < p) → E (.ref (He.ga K "BadPlace")) none H)
theorem ok_Row_noughts (T : Tx K mg) : OkN P w K mg base ("Row", some "noughts") 6 ["self", "place"] (spNoughts K) := by
  refine T.F_Row_noughts.ok sc_Row_noughts (fun vs H Q E h => ?_) (fun cdv A outer s H vs Q E hr h => ?_)
  · obtain ⟨r, l, n, p, rfl, _⟩ := h
    rfl
  · obtain ⟨r, l, n, p, rfl, ⟨hl, dx, e⟩, q1, q2⟩ := h
    refine ⟨_, (pss_one (ps_ret (pe_op op_sub (pv 1) (pe_meth (dvs := []) (pv 0) T.k_Row T.M_Row_ones (ok_Row_ones T) (hr.mono (by decide)) T.B_Row_ones .nil psP (pa_cons (pv 1) pa_nil))))), ?_⟩
    refine ⟨_, rfl, _, rfl, r, dx, _, rfl, e, rfl, _, rfl, r, l, n, p, rfl, ⟨hl, dx, e⟩, fun j ej hj H' x' r' => ⟨_, _, rfl, rfl, ?_⟩, q2⟩
    subst ej
    have := cn_two (l := l) hj
    show Q (.int ((j : Int) - (cn true l j : Nat))) H'
    rw [show (j : Int) - ((cn true l j : Nat) : Int) = ((cn false l j : Nat) : Int) by omega]
    exact q1 j rfl hj H' x' r'
def spAhead (K : PySem.W.Frag) : Sp := fun vs H Q E => ∃ (r : Addr) (l : List Bool) (n : Int) (c : Nat) (b : Bool), vs = [.ref r, .int c, .int b.toNat] ∧ RowAt K H r l n ∧ c ≤ l.length / 32 ∧ ∀ H', Xs (tK K) H H' → Q (.int (cn b l (c * 32))) H'
theorem ok_Row_ahead (T : Tx K mg) : OkN P w K mg base ("Row", some "ahead") 5 ["self", "block", "sign"] (spAhead K) := by
  refine T.F_Row_ahead.ok sc_Row_ahead (fun vs H Q E h => ?_) (fun cdv A outer s H vs Q E hr h => ?_)
  · obtain ⟨r, l, n, c, b, rfl, _⟩ := h
    rfl
  · obtain ⟨r, l, n, c, b, rfl, ⟨hl, dx, e⟩, hc, q⟩ := h
    refine ⟨_, (pss_cons (ps_if (pt_cmpR op_eq (pv 2) pe_int (nomark _))
    (pss_one (ps_ret (pe_meth (dvs := []) (pv 0) T.k_Row T.M_Row_up_to (ok_Row_up_to T) (hr.mono (by decide)) T.B_Row_up_to .nil psP (pa_cons (pv 1) pa_nil)))) pss_nil)
    (pss_one (ps_ret (pe_op op_sub (pe_op op_mul (pv 1) (pe_glob (v := .int _) (by rfl) T.c_BLOCK.choose_spec ⟨_, rfl⟩)) (pe_meth (dvs := []) (pv 0) T.k_Row T.M_Row_up_to (ok_Row_up_to T) (hr.mono (by decide)) T.B_Row_up_to .nil psP (pa_cons (pv 1) pa_nil)))))), ?_⟩
    refine ⟨_, rfl, rfl, _, rfl, ite2 (fun h0 => ?_) (fun h0 => ?_)⟩
    · have h0 := V.int.inj (of_decide_eq_true h0)
      have hb : b = true := by cases b with
        | true => rfl
        | false => cases h0
      subst hb
      exact ⟨_, rfl, r, dx, _, rfl, e, rfl, _, rfl, r, l, n, c, rfl, ⟨hl, dx, e⟩, hc, q⟩
    · have hb : b = false := by cases b with
        | true => exact absurd (decide_eq_true rfl) h0
        | false => rfl
      subst hb
      refine ⟨_, rfl, _, _, rfl, rfl, .inl ⟨by omega, by omega⟩, _, rfl, r, dx, _, rfl, e, rfl, _, rfl, r, l, n, c, rfl, ⟨hl, dx, e⟩, hc, fun H' x' => ⟨_, _, rfl, rfl, ?_⟩⟩
      have := cn_two (l := l) (p := c * 32) (by omega)
      show Q (.int ((c : Int) * 32 - (cn true l (c * 32) : Nat))) H'
      rw [show (c : Int) * 32 - ((cn true l (c * 32) : Nat) : Int) = ((cn false l (c * 32) : Nat) : Int) by omega]
      exact q H' x'
def spFound (K : PySem.W.Frag) : Sp := fun vs H Q E => ∃ (r : Addr) (l : List Bool) (n a : Int) (b : Bool), vs = [.ref r, .int a, .int b.toNat] ∧ RowAt K H r l n ∧ (∀ (j : Nat) (m : Int), a = j → ∀ H', Xt (tK K) H H' → RowAt K H' r l m → n ≤ m → m ≤ n + 32 → Q (on (pos b l)[j]?) H') ∧ (a < 0 → E (.ref (He.ga K "BadPlace")) none H)
theorem ok_Row_found_at (T : Tx K mg) : OkN P w K mg base ("Row", some "found_at") 6 ["self", "number", "sign"] (spFound K) := by
  refine T.F_Row_found_at.ok sc_Row_found_at (fun vs H Q E h => ?_) (fun cdv A outer s H vs Q E hr h => ?_)
  · obtain ⟨r, l, n, a, b, rfl, _⟩ := h
    rfl
  · obtain ⟨r, l, n, a, b, rfl, ⟨hl, dx, e⟩, q1, q2⟩ := h
    refine ⟨_, (pss_cons (ps_expr (pe_meth (dvs := []) (pv 0) T.k_Row T.M_Row_need (ok_Row_need T) (hr.mono (by decide)) T.B_Row_need .nil psP (pa_cons (pe_cmpR op_ge (pv 1) pe_int (nomark _)) pa_nil)))
    (pss_cons (ps_set (i := 3) sc_Row_found_at.nd rfl (.inl rfl) pe_int)
    (pss_cons (ps_set (i := 4) sc_Row_found_at.nd rfl (.inl rfl) (pe_fldK (K := K) rfl (pv 0) (by rfl)))
    (pss_cons (ps_while (passes_of rfl) (pt_cmpR op_lt (pv 3) (pv 4) (nomark _))
    (pss_cons (ps_set (i := 5) sc_Row_found_at.nd rfl (.inl rfl) (pe_op op_fdiv (pe_op op_add (pe_op op_add (pv 3) (pv 4)) pe_int) pe_int))
    (pss_one (ps_if (pt_cmpR op_le (pe_meth (dvs := []) (pv 0) T.k_Row T.M_Row_ahead (ok_Row_ahead T) (hr.mono (by decide)) T.B_Row_ahead .nil psP (pa_cons (pv 5) (pa_cons (pv 2) pa_nil))) (pv 1) (nomark _))
    (pss_one (ps_set (i := 3) sc_Row_found_at.nd rfl (.inl rfl) (pv 5))) (pss_one (ps_set (i := 4) sc_Row_found_at.nd rfl (.inl rfl) (pe_op op_sub (pv 5) pe_int)))))))
    (pss_cons (ps_set (i := 6) sc_Row_found_at.nd rfl (.inl rfl) (pe_op op_sub (pv 1) (pe_meth (dvs := []) (pv 0) T.k_Row T.M_Row_ahead (ok_Row_ahead T) (hr.mono (by decide)) T.B_Row_ahead .nil psP (pa_cons (pv 3) (pa_cons (pv 2) pa_nil)))))
    (pss_cons (ps_for (passes_of rfl) rfl (pi_range2 (by rfl) T.z_range (pa_cons (pe_op op_mul (pv 3) (pe_glob (v := .int _) (by rfl) T.c_BLOCK.choose_spec ⟨_, rfl⟩)) (pa_cons (pe_callB (call_min2 rfl) (by rfl) T.z_min b_min (pa_cons (pe_callB call_len_str (by rfl) T.z_len b_len (pa_cons (pe_fldK (K := K) rfl (pv 0) (by rfl)) pa_nil)) (pa_cons (pe_op op_mul (pe_op op_add (pv 3) pe_int) (pe_glob (v := .int _) (by rfl) T.c_BLOCK.choose_spec ⟨_, rfl⟩)) pa_nil))) pa_nil))) (pg_name (i := 7) sc_Row_found_at.nd rfl (.inl rfl))
    (pss_one (ps_if (pt_cmpR op_eq (pe_meth (dvs := []) (pv 0) T.k_Row T.M_Row_look (ok_Row_look T) (hr.mono (by decide)) T.B_Row_look .nil psP (pa_cons (pv 7) pa_nil)) (pv 2) (nomark _))
    (pss_cons (ps_if (pt_cmpR op_eq (pv 6) pe_int (nomark _))
    (pss_one (ps_ret (pv 7))) pss_nil)
    (pss_one (ps_set (i := 6) sc_Row_found_at.nd rfl (.inl rfl) (pe_op op_sub (pv 6) pe_int)))) pss_nil)))
    (pss_one (ps_ret pe_non)))))))), ?_⟩
    refine ⟨_, rfl, r, dx, _, rfl, e, rfl, _, rfl, _, _, rfl, rfl, r, _, rfl, fun h0 => ?_, fun h0 => q2 (by have := of_decide_eq_false h0; omega)⟩
    have h0 := of_decide_eq_true h0
    obtain ⟨j, rfl⟩ : ∃ j : Nat, a = j := ⟨a.toNat, by omega⟩
    refine ⟨_, rfl, r, _, dx, _, _, rfl, e, T.k_Row, T.n_Row_whole_blocks, rfl, ?_⟩
    refine ⟨fun m σ H' => ∃ (lo hi : Nat) (t5 t6 t7 : Option V), lo + m = hi ∧ σ = [some (.ref r), some (.int j), some (.int b.toNat), some (.int lo), some (.int hi), t5, t6, t7] ∧ Xs (tK K) H H' ∧ hi ≤ l.length / 32 ∧ cn b l (lo * 32) ≤ j ∧ (hi = l.length / 32 ∨ j < cn b l ((hi + 1) * 32)), ⟨l.length / 32, 0, l.length / 32, none, none, none, Nat.zero_add _, rfl, .refl, Nat.le_refl _, Nat.zero_le _, .inl rfl⟩, fun m σ H' hW => ?_⟩
    obtain ⟨lo, hi, t5, t6, t7, hm, rfl, x1, hh, hlo, hhi⟩ := hW
    have r1 := RowAt.xs ⟨hl, dx, e⟩ x1
    obtain ⟨_, dx1, e1⟩ := r1
    refine ⟨_, rfl, _, rfl, _, _, rfl, rfl, _, rfl, ite2 (fun h1 => ?_) (fun h1 => ?_)⟩
    · have h1 : lo < hi := by have := of_decide_eq_true h1; omega
      refine ⟨fun σ' H'' => ∃ m' < m, ∃ (lo hi : Nat) (t5 t6 t7 : Option V), lo + m' = hi ∧ σ' = [some (.ref r), some (.int j), some (.int b.toNat), some (.int lo), some (.int hi), t5, t6, t7] ∧ Xs (tK K) H H'' ∧ hi ≤ l.length / 32 ∧ cn b l (lo * 32) ≤ j ∧ (hi = l.length / 32 ∨ j < cn b l ((hi + 1) * 32)), fun _ _ h => h, ?_⟩
      obtain ⟨mid, hmid⟩ : ∃ mid : Nat, mid = (lo + hi + 1) / 2 := ⟨_, rfl⟩
      have emid : ((lo : Int) + (hi : Int) + 1) / 2 = (mid : Int) := by omega
      refine ⟨_, rfl, _, rfl, _, _, rfl, rfl, _, _, rfl, rfl, _, _, rfl, rfl, ⟨by decide, by decide⟩, ?_⟩
      show gName 5 (V.int (((lo : Int) + (hi : Int) + 1) / 2)) _ _ _
      rw [emid]
      refine ⟨_, rfl, r, dx1, _, rfl, e1, rfl, _, rfl, _, rfl, r, l, n, mid, b, rfl, ⟨hl, dx1, e1⟩, by omega, fun H2 x2 => ⟨_, rfl, _, _, rfl, rfl, _, rfl, ite2 (fun h2 => ?_) (fun h2 => ?_)⟩⟩
      · have h2 : cn b l (mid * 32) ≤ j := by have := of_decide_eq_true h2; omega
        exact ⟨_, rfl, hi - mid, by omega, mid, hi, _, t6, t7, by omega, rfl, x1.trans x2, hh, h2, hhi⟩
      · have h2 : j < cn b l (mid * 32) := by simp only [decide_eq_true_eq] at h2; omega
        refine ⟨_, rfl, _, _, rfl, rfl, mid - 1 - lo, by omega, lo, mid - 1, some (.int mid), t6, t7, by omega, ?_, x1.trans x2, by omega, hlo, .inr ?_⟩
        · rw [show ((mid - 1 : Nat) : Int) = (mid : Int) - 1 by omega]
          rfl
        · rw [show mid - 1 + 1 = mid by omega]
          exact h2
    · have h1 : lo = hi := by simp only [decide_eq_true_eq] at h1; omega
      subst h1
      refine ⟨_, rfl, _, rfl, r, dx1, _, rfl, e1, rfl, _, rfl, _, rfl, r, l, n, lo, b, rfl, ⟨hl, dx1, e1⟩, hh, fun H2 x2 => ⟨_, _, rfl, rfl, ?_⟩⟩
      have r2 := RowAt.xs ⟨hl, dx1, e1⟩ x2
      have x2 := x1.trans x2
      obtain ⟨_, dx2, e2⟩ := r2
      have emin : (if ((lo : Int) + 1) * 32 < (((sb l).length : Nat) : Int) then ((lo : Int) + 1) * 32 else (((sb l).length : Nat) : Int)) = ((min l.length ((lo + 1) * 32) : Nat) : Int) := by
        rw [sb_len]
        split <;> omega
      refine ⟨_, rfl, _, _, rfl, rfl, .inl ⟨by omega, by omega⟩, _, rfl, r, _, dx2, _, _, rfl, e2, T.k_Row, T.n_Row_own, rfl, _, rfl, own_len hl, _, rfl, _, _, rfl, rfl, _, _, rfl, rfl, .inl ⟨by omega, by omega⟩, _, _, rfl, _, _, rfl, ?_, ?_⟩
      · rw [emin]
        exact ⟨by omega, by omega, by omega, by omega⟩
      rw [emin]
      have ek : (((min l.length ((lo + 1) * 32) : Nat) : Int) - (lo : Int) * 32).toNat = min l.length ((lo + 1) * 32) - lo * 32 := by omega
      rw [ek]
      refine for_it w_range (fun i σ H' => Xt (tK K) H H' ∧ RowAt K H' r l (n + (i : Nat)) ∧ cn b l (lo * 32 + i) ≤ j ∧ ∃ t7, σ = [some (.ref r), some (.int j), some (.int b.toNat), some (.int lo), some (.int lo), t5, some (.int ((j : Int) - (cn b l (lo * 32 + i) : Nat))), t7]) ⟨x2.up, by rw [show n + ((0 : Nat) : Int) = n by omega]; exact ⟨hl, dx2, e2⟩, hlo, t7, rfl⟩ (fun _ _ _ _ _ => trivial) ?_ ?_
      · intro i x σ Ha Hb hi p hy
        obtain ⟨xa, ⟨_, dxa, ea⟩, hj, t7, rfl⟩ := p
        obtain ⟨rfl, rfl⟩ := hy
        have ex : ((lo : Int) * 32 + (i : Int)) = ((lo * 32 + i : Nat) : Int) := by omega
        rw [ex]
        have hp : lo * 32 + i < l.length := by omega
        have hb : l[lo * 32 + i]? = some l[lo * 32 + i] := List.getElem?_eq_getElem hp
        refine ⟨_, rfl, r, dxa, _, rfl, ea, rfl, _, rfl, r, l, n + (i : Nat), _, _, rfl, ⟨hl, dxa, ea⟩, hb, fun H3 x3 r3 => ⟨_, rfl, rfl, _, rfl, ite2 (fun h3 => ?_) (fun h3 => ?_)⟩⟩
        · have h3 := V.int.inj (of_decide_eq_true h3)
          have hbb : ∀ c : Bool, ((c.toNat : Nat) : Int) = ((b.toNat : Nat) : Int) → c = b := fun c hc => by
            cases c <;> cases b <;> first | rfl | cases hc
          rw [hbb _ h3] at hb
          refine ⟨_, rfl, rfl, _, rfl, ite2 (fun h4 => ?_) (fun h4 => ?_)⟩
          · have h4 := V.int.inj (of_decide_eq_true h4)
            have h5 : cn b l (lo * 32 + i) = j := by omega
            have h6 := pos_get hb
            rw [h5] at h6
            refine ⟨_, rfl, ?_⟩
            have h7 := q1 j (n + (i : Nat) + 1) rfl H3 (xa.trans x3) r3 (by omega) (by omega)
            rw [h6] at h7
            exact h7
          · have h4 : (j : Int) - (cn b l (lo * 32 + i) : Nat) ≠ 0 := fun z => h4 (decide_eq_true (congrArg V.int z))
            have h5 : cn b l (lo * 32 + (i + 1)) = cn b l (lo * 32 + i) + 1 := by
              rw [show lo * 32 + (i + 1) = (lo * 32 + i) + 1 from rfl, cn_succ, if_pos (bt_iff.mpr hb)]
            refine ⟨_, rfl, _, _, rfl, rfl, xa.trans x3, ?_, by omega, some (.int ((lo * 32 + i : Nat) : Int)), ?_⟩
            · rw [show n + ((i + 1 : Nat) : Int) = n + (i : Int) + 1 by omega]
              exact r3
            · rw [h5, show (j : Int) - ((cn b l (lo * 32 + i) + 1 : Nat) : Int) = (j : Int) - ((cn b l (lo * 32 + i) : Nat) : Int) - 1 by omega]
              rfl
        · have h5 : cn b l (lo * 32 + (i + 1)) = cn b l (lo * 32 + i) := by
            have hne : ¬ bt b l (lo * 32 + i) = true := fun z => by
              rw [bt_iff.mp z] at hb
              exact h3 (decide_eq_true (by rw [← Option.some.inj hb]))
            rw [show lo * 32 + (i + 1) = (lo * 32 + i) + 1 from rfl, cn_succ, if_neg hne]
            rfl
          refine ⟨xa.trans x3, ?_, by omega, some (.int ((lo * 32 + i : Nat) : Int)), ?_⟩
          · rw [show n + ((i + 1 : Nat) : Int) = n + (i : Int) + 1 by omega]
            exact r3
          · rw [h5]
            rfl
      · intro σ Ha p
        obtain ⟨xa, ra, hj, t7, rfl⟩ := p
        have hend : cn b l l.length ≤ j := by
          rcases hhi with h | h
          · rw [show lo * 32 + (min l.length ((lo + 1) * 32) - lo * 32) = l.length by omega] at hj
            exact hj
          · by_cases h6 : lo = l.length / 32
            · rw [show lo * 32 + (min l.length ((lo + 1) * 32) - lo * 32) = l.length by omega] at hj
              exact hj
            · rw [show lo * 32 + (min l.length ((lo + 1) * 32) - lo * 32) = (lo + 1) * 32 by omega] at hj
              omega
        have h7 := q1 j _ rfl Ha xa ra (by omega) (by omega)
        rw [pos_none hend] at h7
        exact h7
def spOneAt (K : PySem.W.Frag) : Sp := fun vs H Q E => ∃ (r : Addr) (l : List Bool) (n a : Int), vs = [.ref r, .int a] ∧ RowAt K H r l n ∧ (∀ (j : Nat) (m : Int), a = j → ∀ H', Xt (tK K) H H' → RowAt K H' r l m → n ≤ m → m ≤ n + 32 → Q (on (pos true l)[j]?) H') ∧ (a < 0 → E (.ref (He.ga K "BadPlace")) none H)
theorem ok_Row_one_at (T : Tx K mg) : OkN P w K mg base ("Row", some "one_at") 7 ["self", "number"] (spOneAt K) := by
  refine T.F_Row_one_at.ok sc_Row_one_at (fun vs H Q E h => ?_) (fun cdv A outer s H vs Q E hr h => ?_)
  · obtain ⟨r, l, n, a, rfl, _⟩ := h
    rfl
  · obtain ⟨r, l, n, a, rfl, ⟨hl, dx, e⟩, q1, q2⟩ := h
    refine ⟨_, (pss_one (ps_ret (pe_meth (dvs := []) (pv 0) T.k_Row T.M_Row_found_at (ok_Row_found_at T) (hr.mono (by decide)) T.B_Row_found_at .nil psP (pa_cons (pv 1) (pa_cons pe_int pa_nil))))), ?_⟩
    exact ⟨_, rfl, r, dx, _, rfl, e, rfl, _, rfl, r, l, n, a, true, rfl, ⟨hl, dx, e⟩, q1, q2⟩
def spNoughtAt (K : PySem.W.Frag) : Sp := fun vs H Q E => ∃ (r : Addr) (l : List Bool) (n a : Int), vs = [.ref r, .int a] ∧ RowAt K H r l n ∧ (∀ (j : Nat) (m : Int), a = j → ∀ H', Xt (tK K) H H' → RowAt K H' r l m → n ≤ m → m ≤ n + 32 → Q (on (pos false l)[j]?) H') ∧ (a < 0 → E (.ref (He.ga K "BadPlace")) none H)
theorem ok_Row_nought_at (T : Tx K mg) : OkN P w K mg base ("Row", some "nought_at") 7 ["self", "number"] (spNoughtAt K) := by
  refine T.F_Row_nought_at.ok sc_Row_nought_at (fun vs H Q E h => ?_) (fun cdv A outer s H vs Q E hr h => ?_)
  · obtain ⟨r, l, n, a, rfl, _⟩ := h
    rfl
  · obtain ⟨r, l, n, a, rfl, ⟨hl, dx, e⟩, q1, q2⟩ := h
    refine ⟨_, (pss_one (ps_ret (pe_meth (dvs := []) (pv 0) T.k_Row T.M_Row_found_at (ok_Row_found_at T) (hr.mono (by decide)) T.B_Row_found_at .nil psP (pa_cons (pv 1) (pa_cons pe_int pa_nil))))), ?_⟩
    exact ⟨_, rfl, r, dx, _, rfl, e, rfl, _, rfl, r, l, n, a, false, rfl, ⟨hl, dx, e⟩, q1, q2⟩
def spRow (K : PySem.W.Frag) : Sp := fun vs H Q E => ∃ (H0 : Hp) (r dx : Addr) (z : Str), vs = [.ref r, .str z] ∧ Xt (tK K) H0 H ∧ Nw H0 r ∧ H r = some (.ins (He.ga K "Row") dx []) ∧ z.length ≤ 100000 ∧
  (∀ l, z = sb l → l.length ≤ 4096 → ∀ H', Xt (tK K) H0 H' → RowAt K H' r l 0 → Q .non H') ∧ (¬ IsB z → ∀ H', Xt (tK K) H0 H' → E (.ref (He.ga K "BadBits")) none H') ∧ (∀ l, z = sb l → 4096 < l.length → ∀ H', Xt (tK K) H0 H' → E (.ref (He.ga K "TooMany")) none H')
theorem ok_Row_init (T : Tx K mg) : OkN P w K mg base ("Row", some "__init__") 3 ["self", "bits"] (spRow K) := by
  refine T.F_Row_init.ok sc_Row_init (fun vs H Q E h => ?_) (fun cdv A outer s H vs Q E hr h => ?_)
  · obtain ⟨H0, r, dx, z, rfl, _⟩ := h
    rfl
  · obtain ⟨H0, r, dx, z, rfl, x0, nr, e, hz, q1, q2, q3⟩ := h
    refine ⟨_, (pss_cons (ps_expr (pe_callS (ok_need_bits T) (hr.mono (by decide)) (by rfl) T.g_need_bits T.F_need_bits.kp T.B_need_bits psE (pa_cons (pv 1) pa_nil)))
    (pss_cons (ps_if (pt_cmpR op_gt (pe_callB call_len_str (by rfl) T.z_len b_len (pa_cons (pv 1) pa_nil)) (pe_glob (v := .int _) (by rfl) T.c_MOST.choose_spec ⟨_, rfl⟩) (nomark _))
    (pss_one (ps_rz T.x_TooMany rfl (by decide))) pss_nil)
    (pss_cons (ps_fld (pv 0) (pv 1) rfl)
    (pss_cons (ps_fld (pv 0) (pe_callS (ok_needs T) (hr.mono (by decide)) (by rfl) T.g_needs T.F_needs.kp T.B_needs psE (pa_cons (pe_callB call_len_str (by rfl) T.z_len b_len (pa_cons (pv 1) pa_nil)) pa_nil)) rfl)
    (pss_cons (ps_fld (pv 0) (pe_op op_fdivW (pe_callB call_len_str (by rfl) T.z_len b_len (pa_cons (pv 1) pa_nil)) (pe_glob (v := .int _) (by rfl) T.c_BLOCK.choose_spec ⟨_, rfl⟩)) rfl)
    (pss_cons (ps_set (i := 2) sc_Row_init.nd rfl (.inl rfl) (pe_lst pa_nil))
    (pss_cons (ps_set (i := 3) sc_Row_init.nd rfl (.inl rfl) pe_int)
    (pss_cons (ps_for (passes_of rfl) rfl (pi_range1 (by rfl) T.z_range (pa_cons (pe_fldK (K := K) rfl (pv 0) (by rfl)) pa_nil)) (pg_name (i := 4) sc_Row_init.nd rfl (.inl rfl))
    (pss_cons (ps_set (i := 3) sc_Row_init.nd rfl (.inl rfl) (pe_op op_add (pv 3) (pe_m1 F.slot_str_count F.type_str_count mt_count (pe_slice sl_str (pv 1) (po_some (pe_op op_mul (pv 4) (pe_glob (v := .int _) (by rfl) T.c_BLOCK.choose_spec ⟨_, rfl⟩))) (po_some (pe_op op_mul (pe_op op_add (pv 4) pe_int) (pe_glob (v := .int _) (by rfl) T.c_BLOCK.choose_spec ⟨_, rfl⟩)))) pe_str)))
    (pss_one (ps_expr (pe_bmK (K := K) rfl F.plainAttrs_list F.slot_list_append F.type_list_append mt_append (pv 2) (pa_cons (pv 3) pa_nil) (by rfl) (by rfl) (by rfl) (by rfl) (by rfl))))))
    (pss_cons (ps_fld (pv 0) (pe_callS (ok_pack T) (hr.mono (by decide)) (by rfl) T.g_pack T.F_pack.kp T.B_pack psE (pa_cons (pv 2) (pa_cons (pe_fldK (K := K) rfl (pv 0) (by rfl)) pa_nil))) rfl)
    (pss_one (ps_fld (pv 0) pe_int rfl))))))))))), ?_⟩
    refine ⟨_, rfl, z, rfl, hz, fun hb H1 x1 => ?_, fun hb H1 x1 => q2 hb H1 (x0.trans x1.up)⟩
    obtain ⟨l, rfl⟩ := hb
    have hzl : (sb l).length ≤ sizeLine := Nat.le_trans hz (by decide)
    have e1 := x1.same e fun ps z => by cases z
    have x1 := x0.trans x1.up
    refine ⟨_, rfl, _, rfl, hzl, _, _, rfl, rfl, _, rfl, ite2 (fun h0 => ?_) (fun h0 => ?_)⟩
    · have h0 := of_decide_eq_true h0
      rw [sb_len] at h0
      exact q3 l rfl (by omega) H1 x1
    have h0 : l.length ≤ 4096 := by
      simp only [decide_eq_true_eq, sb_len] at h0
      omega
    refine ⟨_, rfl, _, rfl, r, _, dx, _, rfl, e1, T.k_Row, T.n_Row_own, by exact (by decide : 0 < 1000), ?_⟩
    have x2 := x1.put (o := .ins (He.ga K "Row") dx [("own", .str (sb l))]) nr (.ins e1)
    have e2 : (upd H1 r (.ins (He.ga K "Row") dx [("own", .str (sb l))])) r = some (.ins (He.ga K "Row") dx [("own", .str (sb l))]) := upd_same ..
    show tSeq _ _ _ _ (upd H1 r (.ins (He.ga K "Row") dx [("own", .str (sb l))]))
    generalize upd H1 r (.ins (He.ga K "Row") dx [("own", .str (sb l))]) = H2 at x2 e2 ⊢
    refine ⟨_, rfl, _, rfl, hzl, _, rfl, fun _ => ?_, fun h => absurd h (by omega)⟩
    rw [show ((((sb l).length : Nat) : Int)).toNat = l.length by rw [sb_len]; omega]
    refine ⟨_, rfl, r, _, dx, _, rfl, e2, T.k_Row, T.n_Row_wide, by exact (by decide : 1 < 1000), ?_⟩
    have x3 := x2.put (o := .ins (He.ga K "Row") dx [("own", .str (sb l)), ("wide", .int (nd l.length))]) nr (.ins e2)
    have e3 : (upd H2 r (.ins (He.ga K "Row") dx [("own", .str (sb l)), ("wide", .int (nd l.length))])) r = some (.ins (He.ga K "Row") dx [("own", .str (sb l)), ("wide", .int (nd l.length))]) := upd_same ..
    show tSeq _ _ _ _ (upd H2 r (.ins (He.ga K "Row") dx [("own", .str (sb l)), ("wide", .int (nd l.length))]))
    generalize upd H2 r (.ins (He.ga K "Row") dx [("own", .str (sb l)), ("wide", .int (nd l.length))]) = H3 at x3 e3 ⊢
    refine ⟨_, rfl, _, rfl, hzl, _, _, rfl, rfl, wide_div (b := 6) (by decide) (by decide) (by decide) (by decide), _, rfl, r, _, dx, _, rfl, e3, T.k_Row, T.n_Row_whole_blocks, by exact (by decide : 2 < 1000), ?_⟩
    have e32 : (((sb l).length : Nat) : Int) / 32 = ((l.length / 32 : Nat) : Int) := by rw [sb_len]; omega
    let f3 : List (Str × V) := [("own", .str (sb l)), ("wide", .int (nd l.length)), ("whole_blocks", .int ((l.length / 32 : Nat) : Int))]
    have x4 := x3.put (o := .ins (He.ga K "Row") dx f3) nr (.ins e3)
    have e4 : (upd H3 r (.ins (He.ga K "Row") dx f3)) r = some (.ins (He.ga K "Row") dx f3) := upd_same ..
    show tSeq _ _ _ _ (upd H3 r (.ins (He.ga K "Row") dx [("own", .str (sb l)), ("wide", .int (nd l.length)), ("whole_blocks", .int ((((sb l).length : Nat) : Int) / 32))]))
    rw [e32]
    generalize upd H3 r (.ins (He.ga K "Row") dx [("own", .str (sb l)), ("wide", .int (nd l.length)), ("whole_blocks", .int ((l.length / 32 : Nat) : Int))]) = H4 at x4 e4 ⊢
    refine ⟨by decide, fun p np => ?_⟩
    have np0 : Nw H0 p := x4.nw (.of np)
    have hpr : r ≠ p := fun z => by rw [z, np] at e4; cases e4
    have x5 := x4.trans (.new (o := .lst []) np)
    have e5 : (upd H4 p (.lst [])) r = some (.ins (He.ga K "Row") dx f3) := by rw [upd_ne hpr]; exact e4
    have c5 : (upd H4 p (.lst [])) p = some (.lst (((List.range 0).map fun j => ((cn true l ((j + 1) * 32) : Nat) : Int)).map .int)) := upd_same ..
    generalize upd H4 p (.lst []) = H5 at x5 e5 c5 ⊢
    refine ⟨_, rfl, r, _, dx, _, _, rfl, e5, T.k_Row, T.n_Row_whole_blocks, rfl, _, rfl, by omega, by omega, for_it w_range (fun i σ H' => Xt (tK K) H0 H' ∧ H' r = some (.ins (He.ga K "Row") dx f3) ∧ H' p = some (.lst (((List.range i).map fun j => ((cn true l ((j + 1) * 32) : Nat) : Int)).map .int)) ∧ ∃ t, σ = [some (.ref r), some (.str (sb l)), some (.ref p), some (.int (cn true l (i * 32) : Nat)), t]) ⟨x5, e5, c5, none, rfl⟩ (fun _ _ _ _ _ => trivial) ?_ ?_⟩
    · intro i x σ Ha Hb hi hp hy
      obtain ⟨xa, ea, ca, t, rfl⟩ := hp
      obtain ⟨rfl, rfl⟩ := hy
      have hi : i < l.length / 32 := by omega
      have ei : (0 : Int) + (i : Int) = (i : Int) := by omega
      rw [ei]
      have ecut : cutS (sb l) (some ((i : Int) * 32)) (some (((i : Int) + 1) * 32)) = sb ((l.take ((i + 1) * 32)).drop (i * 32)) := by
        rw [show (i : Int) * 32 = ((i * 32 : Nat) : Int) by omega, show ((i : Int) + 1) * 32 = (((i + 1) * 32 : Nat) : Int) by omega, cut_sb]
      have ecnt : cn true ((l.take ((i + 1) * 32)).drop (i * 32)) ((l.take ((i + 1) * 32)).drop (i * 32)).length = cn true l ((i + 1) * 32) - cn true l (i * 32) := by
        have h1 : ((l.take ((i + 1) * 32)).drop (i * 32)).length = 32 := by rw [List.length_drop, List.length_take]; omega
        rw [h1]
        have h2 : cn true l (i * 32 + 32) = cn true l (i * 32) + (fr (fun k => bt true l (i * 32 + k)) 32).length := fr_add ..
        rw [show (i + 1) * 32 = i * 32 + 32 by omega, h2, Nat.add_sub_cancel_left]
        unfold cn
        rw [fr_congr fun k hk => ?_]
        unfold bt
        rw [List.getElem?_drop, List.getElem?_take, if_pos (by omega)]
      refine ⟨_, rfl, _, rfl, _, rfl, _, _, rfl, rfl, .inr ⟨by decide, by decide⟩, _, rfl, _, rfl, _, _, rfl, rfl, _, _, rfl, rfl, .inr ⟨by decide, by decide⟩, _, rfl, sb l, rfl, hzl, ⟨_, rfl⟩, _, _, rfl, rfl, _, _, rfl, rfl, ?_⟩
      show gName 3 (V.int (((cn true l (i * 32) : Nat) : Int) + Txt.count (cutS (sb l) (some ((i : Int) * 32)) (some (((i : Int) + 1) * 32))) "1")) _ _ _
      have hmono : cn true l (i * 32) ≤ cn true l ((i + 1) * 32) := cn_mono (by omega)
      rw [ecut, count_bit, ecnt, show ((cn true l (i * 32) : Nat) : Int) + ((cn true l ((i + 1) * 32) - cn true l (i * 32) : Nat) : Int) = ((cn true l ((i + 1) * 32) : Nat) : Int) by omega]
      refine ⟨_, rfl, .inl ⟨rfl, _, SqL.of ca⟩, _, rfl, p, _, _, rfl, rfl, ca, ?_, xa.mut np0 ca, by rw [upd_ne hpr]; exact ea, ?_, some (.int (i : Nat)), rfl⟩
      · rw [List.length_map, List.length_map, List.length_range]
        exact Nat.lt_of_lt_of_le hi (Nat.le_trans (show l.length / 32 ≤ 128 by omega) (by decide))
      · rw [upd_same, List.range_succ, List.map_append, List.map_append]
        rfl
    · intro σ Ha hp
      obtain ⟨xa, ea, ca, t, rfl⟩ := hp
      have ek : ((((l.length / 32 : Nat) : Int))).toNat = l.length / 32 := by omega
      rw [ek] at ca
      have hbad : ∀ n ∈ ((List.range (l.length / 32)).map fun j => ((cn true l ((j + 1) * 32) : Nat) : Int)), 0 ≤ n ∧ nd n.toNat ≤ nd l.length := fun n hn => by
        obtain ⟨j, hj, rfl⟩ := List.mem_map.mp hn
        have hj := List.mem_range.mp hj
        refine ⟨by omega, (nd_le _ _).mpr ?_⟩
        have h1 : cn true l ((j + 1) * 32) ≤ (j + 1) * 32 := cn_le
        have h2 : l.length < 2 ^ nd l.length := (nd_le _ _).mp (Nat.le_refl _)
        show cn true l ((j + 1) * 32) < _
        omega
      refine ⟨_, rfl, _, rfl, r, _, dx, _, _, rfl, ea, T.k_Row, T.n_Row_wide, rfl, p, _, nd l.length, rfl, SqL.of ca, ?_, Nat.le_trans (nd_len h0) (by decide), fun _ H6 x6 => ?_, fun ⟨n, hn, hb⟩ => ?_⟩
      · rw [List.length_map, List.length_range]
        omega
      · have e6 := x6.same ea fun ps z => by cases z
        have x6 := xa.trans x6.up
        have ect : ((List.range (l.length / 32)).map fun j => ((cn true l ((j + 1) * 32) : Nat) : Int)).map Int.toNat = cts l := by
          rw [List.map_map]
          rfl
        rw [ect]
        refine ⟨_, rfl, r, _, dx, _, rfl, e6, T.k_Row, T.n_Row_counts, by exact (by decide : 3 < 1000), ?_⟩
        have x7 := x6.put (o := .ins (He.ga K "Row") dx (rowF l)) nr (.ins e6)
        have e7 : (upd H6 r (.ins (He.ga K "Row") dx (rowF l))) r = some (.ins (He.ga K "Row") dx (rowF l)) := upd_same ..
        refine ⟨_, rfl, r, _, dx, _, rfl, e7, T.k_Row, T.n_Row_seen, by exact (by decide : 4 < 1000), ?_⟩
        exact q1 l rfl h0 _ (x7.put nr (.ins e7)) ⟨h0, dx, upd_same ..⟩
      · exfalso
        have := hbad n hn
        omega
def spRoom (K : PySem.W.Frag) : Sp := fun vs H Q E => ∃ (r : Addr) (l : List Bool) (n : Int), vs = [.ref r] ∧ RowAt K H r l n ∧ Q (.int ((l.length + l.length / 32 * nd l.length : Nat) : Int)) H
theorem ok_Row_room (T : Tx K mg) : OkN P w K mg base ("Row", some "room") 1 ["self"] (spRoom K) := by
  refine T.F_Row_room.ok sc_Row_room (fun vs H Q E h => ?_) (fun cdv A outer s H vs Q E hr h => ?_)
  · obtain ⟨r, l, n, rfl, _⟩ := h
    rfl
  · obtain ⟨r, l, n, rfl, ⟨hl, dx, e⟩, q⟩ := h
    refine ⟨_, (pss_one (ps_ret (pe_op op_add (pe_callB call_len_str (by rfl) T.z_len b_len (pa_cons (pe_fldK (K := K) rfl (pv 0) (by rfl)) pa_nil)) (pe_callB call_len_str (by rfl) T.z_len b_len (pa_cons (pe_fldK (K := K) rfl (pv 0) (by rfl)) pa_nil))))), ?_⟩
    have hlen : (sb (pk (cts l) (nd l.length))).length = l.length / 32 * nd l.length := by rw [sb_len, pk_len, cts_len]
    refine ⟨_, rfl, r, _, dx, _, _, rfl, e, T.k_Row, T.n_Row_own, rfl, _, rfl, own_len hl, _, rfl, r, _, dx, _, _, rfl, e, T.k_Row, T.n_Row_counts, rfl, _, rfl, ?_, _, _, rfl, rfl, ?_⟩
    · rw [hlen]
      exact Nat.le_trans (Nat.mul_le_mul (show l.length / 32 ≤ 128 by omega) (nd_len hl)) (by decide)
    · show Q (.int ((((sb l).length : Nat) : Int) + (((sb (pk (cts l) (nd l.length))).length : Nat) : Int))) H
      rw [hlen, sb_len, ← Int.natCast_add]
      exact q
def spLooks (K : PySem.W.Frag) : Sp := fun vs H Q E => ∃ (r : Addr) (l : List Bool) (n : Int), vs = [.ref r] ∧ RowAt K H r l n ∧ Q (.int n) H
theorem ok_Row_looks (T : Tx K mg) : OkN P w K mg base ("Row", some "looks") 1 ["self"] (spLooks K) := by
  refine T.F_Row_looks.ok sc_Row_looks (fun vs H Q E h => ?_) (fun cdv A outer s H vs Q E hr h => ?_)
  · obtain ⟨r, l, n, rfl, _⟩ := h
    rfl
  · obtain ⟨r, l, n, rfl, ⟨hl, dx, e⟩, q⟩ := h
    refine ⟨_, (pss_one (ps_ret (pe_fldK (K := K) rfl (pv 0) (by rfl)))), ?_⟩
    exact ⟨_, rfl, r, _, dx, _, _, rfl, e, T.k_Row, T.n_Row_seen, rfl, q⟩
end
end Tw

set_option maxHeartbeats 4000000
namespace Tw
open PySem PySem.Spec PyProof.Rows L2 LamX
section
variable {P : Program} {w : World} {K : PySem.W.Frag} {mg : Str → Option Value} {base : Heap}
def asked (l : List Bool) (w a : Nat) : V := match w with
  | 0 => .int (cn true l a : Nat)
  | 1 => .int (cn false l a : Nat)
  | 2 => on (pos true l)[a]?
  | _ => on (pos false l)[a]?
def most (w : Nat) : Int := if w < 2 then 31 else 32
def spAsked (K : PySem.W.Frag) : Sp := fun vs H Q E => ∃ (r : Addr) (l : List Bool) (n : Int) (w a : Nat), vs = [.ref r, .int w, .int a] ∧ w < 4 ∧ a ≤ l.length ∧ RowAt K H r l n ∧ ∀ m H', Xt (tK K) H H' → RowAt K H' r l m → n ≤ m → m ≤ n + most w → Q (asked l w a) H'
theorem ok__law_asked (T : Tx K mg) : OkN P w K mg base ("_law_asked", none) 8 ["_law_row", "_law_way", "_law_at"] (spAsked K) := by
  refine T.F__law_asked.ok sc__law_asked (fun vs H Q E h => ?_) (fun cdv A outer s H vs Q E hr h => ?_)
  · obtain ⟨r, l, n, w, a, rfl, _⟩ := h
    rfl
  · obtain ⟨r, l, n, w, a, rfl, hw, ha, ⟨hl, dx, e⟩, q⟩ := h
    refine ⟨_, (pss_cons (ps_if (pt_cmpR op_eq (pv 1) pe_int (nomark _))
    (pss_one (ps_ret (pe_meth (dvs := []) (pv 0) T.k_Row T.M_Row_ones (ok_Row_ones T) (hr.mono (by decide)) T.B_Row_ones .nil psP (pa_cons (pv 2) pa_nil)))) pss_nil)
    (pss_cons (ps_if (pt_cmpR op_eq (pv 1) pe_int (nomark _))
    (pss_one (ps_ret (pe_meth (dvs := []) (pv 0) T.k_Row T.M_Row_noughts (ok_Row_noughts T) (hr.mono (by decide)) T.B_Row_noughts .nil psP (pa_cons (pv 2) pa_nil)))) pss_nil)
    (pss_cons (ps_if (pt_cmpR op_eq (pv 1) pe_int (nomark _))
    (pss_one (ps_ret (pe_meth (dvs := []) (pv 0) T.k_Row T.M_Row_one_at (ok_Row_one_at T) (hr.mono (by decide)) T.B_Row_one_at .nil psP (pa_cons (pv 2) pa_nil)))) pss_nil)
    (pss_one (ps_ret (pe_meth (dvs := []) (pv 0) T.k_Row T.M_Row_nought_at (ok_Row_nought_at T) (hr.mono (by decide)) T.B_Row_nought_at .nil psP (pa_cons (pv 2) pa_nil))))))), ?_⟩
    refine ⟨_, rfl, rfl, _, rfl, ite2 (fun h0 => ?_) (fun h0 => ?_)⟩
    · have h0 := V.int.inj (of_decide_eq_true h0)
      have h0 : w = 0 := by omega
      subst h0
      exact ⟨_, rfl, r, dx, _, rfl, e, rfl, _, rfl, r, l, n, a, rfl, ⟨hl, dx, e⟩, fun j ej hj H' x' r' => by
        have ej : j = a := by omega
        subst ej
        exact q _ H' x' r' (by omega) (show n + ((j % 32 : Nat) : Int) ≤ n + 31 by omega), fun h => absurd h (by omega)⟩
    have h0 : w ≠ 0 := fun z => h0 (decide_eq_true (by rw [z]; rfl))
    refine ⟨_, rfl, rfl, _, rfl, ite2 (fun h1 => ?_) (fun h1 => ?_)⟩
    · have h1 := V.int.inj (of_decide_eq_true h1)
      have h1 : w = 1 := by omega
      subst h1
      exact ⟨_, rfl, r, dx, _, rfl, e, rfl, _, rfl, r, l, n, a, rfl, ⟨hl, dx, e⟩, fun j ej hj H' x' r' => by
        have ej : j = a := by omega
        subst ej
        exact q _ H' x' r' (by omega) (show n + ((j % 32 : Nat) : Int) ≤ n + 31 by omega), fun h => absurd h (by omega)⟩
    have h1 : w ≠ 1 := fun z => h1 (decide_eq_true (by rw [z]; rfl))
    refine ⟨_, rfl, rfl, _, rfl, ite2 (fun h2 => ?_) (fun h2 => ?_)⟩
    · have h2 := V.int.inj (of_decide_eq_true h2)
      have h2 : w = 2 := by omega
      subst h2
      exact ⟨_, rfl, r, dx, _, rfl, e, rfl, _, rfl, r, l, n, a, rfl, ⟨hl, dx, e⟩, fun j m ej H' x' r' h3 h4 => by
        have ej : j = a := by omega
        subst ej
        exact q _ H' x' r' h3 h4, fun h => absurd h (by omega)⟩
    have h2 : w ≠ 2 := fun z => h2 (decide_eq_true (by rw [z]; rfl))
    have h3 : w = 3 := by omega
    subst h3
    exact ⟨_, rfl, r, dx, _, rfl, e, rfl, _, rfl, r, l, n, a, rfl, ⟨hl, dx, e⟩, fun j m ej H' x' r' h3 h4 => by
      have ej : j = a := by omega
      subst ej
      exact q _ H' x' r' h3 h4, fun h => absurd h (by omega)⟩
theorem sign_eq (b c : Bool) : decide (V.str ⟨#[bc b]⟩ = V.str ⟨#[bc c]⟩) = (b == c) := by cases b <;> cases c <;> decide +kernel
theorem codes10 : (Str.ofString "10" : Str).cps.toList = [bc true, bc false] := by decide +kernel
def spDue (K : PySem.W.Frag) : Sp := fun vs H Q E => ∃ (l : List Bool) (w a : Nat), vs = [.str (sb l), .int w, .int a] ∧ w < 4 ∧ a ≤ l.length ∧ l.length ≤ 4096 ∧ ∀ H', Xs (tK K) H H' → Q (asked l w a) H'
theorem ok__law_due (T : Tx K mg) : OkN P w K mg base ("_law_due", none) 1 ["_law_bits_here", "_law_way", "_law_at"] (spDue K) := by
  refine T.F__law_due.ok sc__law_due (fun vs H Q E h => ?_) (fun cdv A outer s H vs Q E hr h => ?_)
  · obtain ⟨l, w, a, rfl, _⟩ := h
    rfl
  · obtain ⟨l, w, a, rfl, hw, ha, hl, q⟩ := h
    refine ⟨_, (pss_cons (ps_if (pt_cmpR op_lt (pv 1) pe_int (nomark _))
    (pss_one (ps_ret (pe_m1 F.slot_str_count F.type_str_count mt_count (pe_slice sl_str (pv 0) po_none (po_some (pv 2))) (pe_ix ix_str pe_str (pv 1) (fun _ _ => rfl))))) pss_nil)
    (pss_cons (ps_setLc (i := 3) (own := [("_law_place", 4)]) rfl sc__law_due.nd rfl rfl (sw_true rfl rfl rfl (by decide +kernel)) (pi_range1 (by rfl) T.z_range (pa_cons (pe_callB call_len_str (by rfl) T.z_len b_len (pa_cons (pv 0) pa_nil)) pa_nil)) (blkOk_by (N := N__law_due) (sc := defScope s__law_due) (by decide +kernel)) (fun _ _ _ _ _ => (pg_name (i := 4) sc__law_due.nd rfl (.inl rfl))) (fun _ _ _ _ _ => (pts_one (pt_cmpR op_eq (pe_ix ix_str (pv 0) (pv 4) (fun _ _ => rfl)) (pe_ix ix_str pe_str (pe_op op_sub (pv 1) pe_int) (fun _ _ => rfl)) (nomark _)))) (fun _ _ _ _ _ => (pv 4)))
    (pss_one (ps_ret (pe_ix (ix_listK (K := K) rfl) (pe_op op_cat (pe_slice (sl_listK (K := K) rfl) (pv 3) (po_some (pv 2)) po_none) (pe_lst (pa_cons pe_non pa_nil))) pe_int (fun _ _ => rfl)))))), ?_⟩
    have hz : (sb l).length ≤ sizeLine := by rw [sb_len]; exact Nat.le_trans hl (by decide)
    have n10 : (Str.ofString "10" : Str).length ≤ sizeLine := by decide +kernel
    have ect : cutS (sb l) none (some (a : Int)) = sb (l.take a) := by
      unfold sb
      rw [cutS_take, List.map_take]
    have pick : ∀ k : Nat, k < 2 → atI (Str.ofString "10" : Str).cps.toList (k : Int) = some (bc (k == 0)) := fun k hk => by
      rw [codes10]
      match k, hk with
      | 0, _ => exact atI_nat (j := 0) rfl
      | 1, _ => exact atI_nat (j := 1) rfl
    refine ⟨_, rfl, _, _, rfl, rfl, _, rfl, ite2 (fun h0 => ?_) (fun h0 => ?_)⟩
    · have h0 : w < 2 := by have := of_decide_eq_true h0; omega
      refine ⟨_, rfl, _, rfl, _, rfl, sb l, rfl, hz, ⟨_, rfl⟩, _, rfl, "10", _, bc (w == 0), rfl, rfl, n10, pick w h0, _, _, rfl, rfl, ?_⟩
      show Q (.int (Txt.count (cutS (sb l) none (some (a : Int))) (sb [w == 0]))) H
      rw [ect, count_sign, cn_take ha]
      match w, h0 with
      | 0, _ => exact q H .refl
      | 1, _ => exact q H .refl
    · have h0 : 2 ≤ w := by simp only [decide_eq_true_eq] at h0; omega
      have ek : ((((sb l).length : Nat) : Int)).toNat = l.length := by rw [sb_len]; omega
      have ew : (w : Int) - 2 = ((w - 2 : Nat) : Int) := by omega
      refine ⟨_, rfl, _, rfl, hz, _, rfl, by rw [sb_len]; omega, by rw [sb_len]; omega, fun D hD => lcFs (T := tK K) w_range hD (by rw [ek]; omega) (fun _ _ => trivial) (bt (w - 2 == 0) l) (fun i => .int (i : Nat)) ?_ ?_ fun H1 x1 e1 => ?_⟩
      · intro i x H1 hi hy x1 Q q
        rw [ek] at hi
        have ei : (0 : Int) + (i : Int) = (i : Int) := by omega
        rw [ei] at hy
        subst hy
        have hb : l[i]? = some l[i] := List.getElem?_eq_getElem hi
        refine ⟨_, rfl, _, rfl, sb l, _, bc l[i], rfl, rfl, hz, atI_nat ?_, _, rfl, _, _, rfl, rfl, "10", _, bc (w - 2 == 0), rfl, rfl, n10, ?_, rfl, _, rfl, ?_⟩
        · show (l.map bc)[i]? = _
          rw [List.getElem?_map, hb]
          rfl
        · rw [ew]
          exact pick _ (by omega)
        · have e : bt (w - 2 == 0) l i = (l[i] == (w - 2 == 0)) := by unfold bt; rw [hb]; rfl
          rw [sign_eq, ← e]
          exact q H1 .refl
      · intro i x H1 hi hy hf x1 Q q
        have ei : (0 : Int) + (i : Int) = (i : Int) := by omega
        rw [ei] at hy
        subst hy
        exact ⟨_, rfl, q H1 .refl⟩
      · rw [ek] at e1
        have e1 : H1 D = some (.lst ((pos (w - 2 == 0) l).map fun (i : Nat) => V.int i)) := e1
        refine ⟨_, rfl, _, rfl, _, rfl, D, _, rfl, SqL.of e1, fun p2 n2 => ?_⟩
        rw [cut_drop]
        refine ⟨by exact (by decide : 1 ≤ sizeLine), fun p3 n3 => ⟨_, _, _, _, rfl, rfl, (Xs.new (T := tK K) n3).lst (upd_same ..), upd_same .., ?_, fun p4 n4 => ⟨p4, _, 0, on (pos (w - 2 == 0) l)[a]?, rfl, rfl, SqL.of (upd_same ..), ?_, ?_⟩⟩⟩
        · rw [List.length_drop, List.length_map]
          have : (pos (w - 2 == 0) l).length ≤ l.length := cn_le
          exact Nat.le_trans (show _ + 1 ≤ 4097 by omega) (by decide)
        · rw [← List.map_drop, first_on, List.getElem?_drop, Nat.add_zero]
        · match w, hw, h0 with
          | 2, _, _ => exact q _ (((x1.trans (.new n2)).trans (.new n3)).trans (.new n4))
          | 3, _, _ => exact q _ (((x1.trans (.new n2)).trans (.new n3)).trans (.new n4))
end
end Tw

set_option maxHeartbeats 4000000
namespace Tw
open PySem PySem.Spec PyProof.Rows L2 LamX
section
variable {P : Program} {w : World} {K : PySem.W.Frag} {mg : Str → Option Value} {base : Heap}
def spLaw (K : PySem.W.Frag) : Sp := fun vs H Q _ => ∃ (a : Addr) (ns : List Int), vs = [.ref a] ∧ SqL K H a (ns.map .int) ∧ ns.length ≤ 63 ∧ Tabs (tK K) H ∧ ∀ H', Q (.bl true) H'
theorem spLaw_of {H : Hp} {a : Addr} {ns : List Int} (hS : SqL K H a (ns.map V.int)) (hl : ns.length ≤ 63) (_ : ∀ z ∈ ns, Builtin.Int.intBits z ≤ 1048576) (hT : Tabs (tK K) H) : spLaw K [.ref a] H (fun v _ => v = .bl true) fun _ _ _ => False := ⟨a, ns, rfl, hS, hl, hT, fun _ => rfl⟩
theorem dp_asked {H : Hp} (l : List Bool) (w a : Nat) : ∃ d, Dp K H (asked l w a) d ∧ ∀ {n}, Sh n d := by
  unfold asked
  split
  · exact ⟨_, .int _, sh_int⟩
  · exact ⟨_, .int _, sh_int⟩
  · exact ⟨_, dp_on _, sh_on _⟩
  · exact ⟨_, dp_on _, sh_on _⟩
theorem ok_law (T : Tx K mg) : OkN P w K mg base ("law", none) 14 ["_law_script"] (spLaw K) := by
  refine okC T.F_law sc_law (fun vs H Q E h => ?_) (fun A outer s H0 vs Q E hr h => ?_)
  · obtain ⟨a, ns, rfl, _⟩ := h
    rfl
  · obtain ⟨a, ns, rfl, ha, hl, hT, q⟩ := h
    refine ⟨_, (pss_cons (ps_for (passes_of rfl) rfl (pi_range1 (by rfl) T.z_range (pa_cons (pe_callB (call_max2 rfl) (by rfl) T.z_max b_max (pa_cons pe_int (pa_cons (pe_callB (call_min2 rfl) (by rfl) T.z_min b_min (pa_cons pe_int (pa_cons (pe_callB (call_len_seqK (K := K) rfl) (by rfl) T.z_len b_len (pa_cons (pv 0) pa_nil)) pa_nil))) pa_nil))) pa_nil)) (pg_name (i := 1) sc_law.nd rfl (.inl rfl))
    (pss_cons (ps_set (i := 2) sc_law.nd rfl (.inr rfl) (pe_callS (ok__law_drawn T) (hr.mono (by decide)) (by rfl) T.g__law_drawn T.F__law_drawn.kp T.B__law_drawn psE (pa_cons (pe_callS (ok__law_cell T) (hr.mono (by decide)) (by rfl) T.g__law_cell T.F__law_cell.kp T.B__law_cell psE (pa_cons (pv 0) (pa_cons (pv 1) pa_nil))) (pa_cons (pv 1) pa_nil))))
    (pss_cons (ps_set (i := 3) sc_law.nd rfl (.inl rfl) (pe_op op_mod (pv 2) pe_int))
    (pss_cons (ps_set (i := 4) sc_law.nd rfl (.inl rfl) (pe_slice sl_str (pe_joinK (K := K) rfl pe_str (pe_lc (own := [("_law_j", 5)]) rfl sc_law.nd (pi_range1 (by rfl) T.z_range (pa_cons pe_int pa_nil)) (blkOk_by (N := N_law) (sc := defScope s_law) (by decide +kernel)) (fun _ _ _ _ _ => (pg_name (i := 5) sc_law.nd rfl (.inl rfl))) (fun _ _ _ _ _ => pts_nil) (fun _ _ _ _ _ => (pe_callS (ok__law_bits T) (hr.mono (by decide)) (by rfl) T.g__law_bits T.F__law_bits.kp T.B__law_bits ps0 (pa_cons (pe_op op_mod (pe_callS (ok__law_drawn T) (hr.mono (by decide)) (by rfl) T.g__law_drawn T.F__law_drawn.kp T.B__law_drawn ps0 (pa_cons (pv 2) (pa_cons (pv 5) pa_nil))) pe_int) (pa_cons pe_int pa_nil))))) (by rfl) (by rfl) (by rfl)) po_none (po_some (pv 3))))
    (pss_cons (ps_set (i := 6) sc_law.nd rfl (.inl rfl) (pe_make (dvs := []) T.mk_Row (ok_Row_init T) (hr.mono (by decide)) (by rfl) T.g_Row T.B_Row_init .nil psP (pa_cons (pv 4) pa_nil)))
    (pss_cons (ps_if (pt_cmpR op_ne (pe_meth0 (dvs := []) (pv 6) T.k_Row T.M_Row_room (ok_Row_room T) (hr.mono (by decide)) T.B_Row_room .nil psP) (pe_op op_add (pv 3) (pe_op op_mul (pe_op op_fdiv (pv 3) pe_int) (pe_callS (ok__law_needs T) (hr.mono (by decide)) (by rfl) T.g__law_needs T.F__law_needs.kp T.B__law_needs psE (pa_cons (pv 3) pa_nil)))) (nomark _))
    (pss_one (ps_ret pe_bl)) pss_nil)
    (pss_one (ps_for (passes_of rfl) rfl (pi_range1 (by rfl) T.z_range (pa_cons pe_int pa_nil)) (pg_name (i := 5) sc_law.nd rfl (.inl rfl))
    (pss_cons (ps_set (i := 7) sc_law.nd rfl (.inl rfl) (pe_callS (ok__law_drawn T) (hr.mono (by decide)) (by rfl) T.g__law_drawn T.F__law_drawn.kp T.B__law_drawn psE (pa_cons (pv 2) (pa_cons (pe_op op_add pe_int (pv 5)) pa_nil))))
    (pss_cons (ps_set (i := 8) sc_law.nd rfl (.inl rfl) (pe_op op_mod (pv 7) pe_int))
    (pss_cons (ps_set (i := 9) sc_law.nd rfl (.inl rfl) (pe_op op_mod (pe_op op_fdiv (pv 7) pe_int) (pe_op op_add (pv 3) pe_int)))
    (pss_cons (ps_set (i := 10) sc_law.nd rfl (.inl rfl) (pe_meth0 (dvs := []) (pv 6) T.k_Row T.M_Row_looks (ok_Row_looks T) (hr.mono (by decide)) T.B_Row_looks .nil psP))
    (pss_cons (ps_if (pt_cmpR (op_neDK (K := K) rfl hr.units) (pe_callS (ok__law_asked T) (hr.mono (by decide)) (by rfl) T.g__law_asked T.F__law_asked.kp T.B__law_asked psE (pa_cons (pv 6) (pa_cons (pv 8) (pa_cons (pv 9) pa_nil)))) (pe_callS (ok__law_due T) (hr.mono (by decide)) (by rfl) T.g__law_due T.F__law_due.kp T.B__law_due psE (pa_cons (pv 4) (pa_cons (pv 8) (pa_cons (pv 9) pa_nil)))) (nomark _))
    (pss_one (ps_ret pe_bl)) pss_nil)
    (pss_one (ps_if (PW.pt (pw_or (pt_cmpR op_gt (pe_op op_sub (pe_meth0 (dvs := []) (pv 6) T.k_Row T.M_Row_looks (ok_Row_looks T) (hr.mono (by decide)) T.B_Row_looks .nil psP) (pv 10)) (pe_ix (ix_listK (K := K) rfl) (pe_lst (pa_cons pe_int (pa_cons pe_int (pa_cons pe_int (pa_cons pe_int pa_nil))))) (pv 8) (fun _ _ => rfl)) (nomark _)) (pw_or1 (pt_cmpR op_lt (pe_meth0 (dvs := []) (pv 6) T.k_Row T.M_Row_looks (ok_Row_looks T) (hr.mono (by decide)) T.B_Row_looks .nil psP) (pv 10) (nomark _)))))
    (pss_one (ps_ret pe_bl)) pss_nil)))))))))))))))
    (pss_one (ps_ret pe_bl))), ?_⟩
    refine ⟨_, rfl, _, _, rfl, .inl ha, _, _, rfl, _, _, rfl, _, rfl, ?_, ?_, for_it w_range (fun i σ H' => Xt (tK K) H0 H' ∧ ∃ t, σ = some (.ref a) :: t ∧ t.length = 10) ⟨Xt.refl, _, rfl, rfl⟩ (fun _ _ _ _ _ => trivial) ?_ (fun σ H' h => q _)⟩
    · split <;> split <;> simp only [List.length_map] at * <;> omega
    · split <;> split <;> simp only [List.length_map] at * <;> omega
    intro k x σ H1 H2 hk p hy
    obtain ⟨x1, t, rfl, ht⟩ := p
    obtain ⟨rfl, rfl⟩ := hy
    have hk2 : k ≤ 63 := by
      have : ((if (if ((ns.map V.int).length : Int) < 3 then ((ns.map V.int).length : Int) else 3) > 1 then (if ((ns.map V.int).length : Int) < 3 then ((ns.map V.int).length : Int) else 3) else 1) : Int) ≤ 63 := by
        rw [List.length_map]
        split <;> split <;> omega
      omega
    match t, ht with
    | [o1, o2, o3, o4, o5, o6, o7, o8, o9, o10], _ =>
    refine ⟨_, rfl, _, rfl, a, ns, k, ?_, x1.seq ha, by omega, by omega, fun H2 x2 => ?_⟩
    · rw [Int.zero_add]
    have x2 := x1.trans x2
    refine ⟨_, rfl, _, (0 + (k : Int)), rfl, by omega, by omega, ?_⟩
    generalize hm : dr (cellV ns k) (0 + (k : Int)) = m
    have hm0 : 0 ≤ m := by rw [← hm]; exact (dr_rng _ _).1
    have hmA : m < pA := by rw [← hm]; exact (dr_rng _ _).2
    generalize (0 + (k : Int)) = k0
    obtain ⟨sz, hsz, hsz2⟩ : ∃ sz : Nat, m % 301 = sz ∧ sz ≤ 300 := ⟨(m % 301).toNat, by omega, by omega⟩
    refine ⟨_, rfl, _, _, rfl, rfl, (show (0 : Int) < 301 by decide), ?_⟩
    show gName 3 (V.int (m % 301)) _ _ _
    rw [hsz]
    refine ⟨⟨_, rfl⟩, _, rfl, by decide, by decide, fun D4 n4 => lcP (T := tK K) w_range n4 (by decide) (fun _ _ => trivial) (fun j => .str (sb (bn (dr m j % 1024).toNat 10))) ?_ fun H4 x4 e4 => ?_⟩
    · intro j x H4 hj hy x4 Q q
      have hj : j < 31 := hj
      have ej : (0 : Int) + (j : Int) = (j : Int) := Int.zero_add _
      rw [ej] at hy
      subst hy
      have h0 := Int.emod_nonneg (dr m (j : Int)) (show (1024 : Int) ≠ 0 by decide)
      refine ⟨_, rfl, _, rfl, _, _, rfl, by omega, by omega, _, _, rfl, rfl, (show (0 : Int) < 1024 by decide), (dr m (j : Int) % 1024).toNat, 10, ?_, by decide, q _ Xt.refl⟩
      rw [Int.toNat_of_nonneg h0]
      rfl
    have x4 := x2.trans x4
    have e4 : H4 D4 = some (.lst ((((List.range 31).map fun j : Nat => bn (dr m j % 1024).toNat 10).map sb).map .str)) := by
      rw [e4, List.map_map, List.map_map]
      rfl
    have hsum : ((List.range 31).map fun j : Nat => bn (dr m j % 1024).toNat 10).flatten.length = 310 := by
      rw [List.length_flatten, List.map_map]
      have : (List.length ∘ fun j : Nat => bn (dr m (j : Int) % 1024).toNat 10) = fun _ => 10 := funext fun j => bn_len _ _
      rw [this]
      decide
    have hlen31 : ((List.range 31).map fun j : Nat => bn (dr m j % 1024).toNat 10).length = 31 := by rw [List.length_map, List.length_range]
    generalize ((List.range 31).map fun j : Nat => bn (dr m j % 1024).toNat 10) = pcs at e4 hsum hlen31
    refine ⟨S [], D4, pcs.map sb, rfl, rfl, .inl (SqL.of e4), ?_, ?_⟩
    · rw [sum_len, S_len, ← List.length_flatten, hsum, List.length_map, hlen31]
      decide
    rw [show S [] = sb [] from rfl, join_sb]
    refine ⟨_, rfl, _, rfl, sb pcs.flatten, rfl, by rw [sb_len, hsum]; decide, ?_⟩
    have ect : cutS (sb pcs.flatten) none (some (sz : Int)) = sb (pcs.flatten.take sz) := by
      unfold sb
      rw [cutS_take, List.map_take]
    rw [ect]
    have hl0 : (pcs.flatten.take sz).length = sz := by rw [List.length_take, hsum]; omega
    generalize pcs.flatten.take sz = l at hl0 ⊢
    have hl4 : l.length ≤ 4096 := by omega
    refine ⟨_, rfl, fun r dx hrn hdn hne => ?_⟩
    have xm : Xt (tK K) H4 (upd (upd H4 dx (.own r)) r (.ins (He.ga K "Row") dx [])) := (Xt.new hdn).trans (.new (by rw [upd_ne (Ne.symm hne)]; exact hrn))
    refine ⟨H4, r, dx, sb l, rfl, xm, .of hrn, upd_same .., by rw [sb_len]; omega, fun l' e _ H5 x5 r5 => ⟨rfl, ?_⟩, fun h => absurd ⟨l, rfl⟩ h, fun l' e h => absurd h (by rw [← sb_inj e]; omega)⟩
    have e := sb_inj e
    subst e
    have x5 := x4.trans x5
    refine ⟨_, rfl, r, _, _, rfl, r5.2.choose_spec, rfl, r, l, 0, rfl, r5, _, rfl, _, rfl, _, _, rfl, rfl, ⟨by decide, by decide⟩, _, rfl, sz, rfl, _, _, rfl, rfl, .inl ⟨by omega, by omega⟩, _, _, rfl, rfl, rfl, _, rfl, ite2 (fun h => ?_) (fun _ => ?_)⟩
    · rw [hl0, decide_eq_true (congrArg V.int (show ((sz + sz / 32 * nd sz : Nat) : Int) = (sz : Int) + (sz : Int) / 32 * (nd sz : Int) by rw [Int.natCast_add, Int.natCast_mul, Int.natCast_ediv]; rfl))] at h
      cases h
    refine ⟨_, rfl, by omega, by omega, for_it w_range (fun i σ H' => Xt (tK K) H5 H' ∧ ∃ t t1 t2 t3 t4, σ = [some (.ref a), some (.int k0), some (.int m), some (.int sz), some (.str (sb l)), t, some (.ref r), t1, t2, t3, t4]) ⟨.refl, _, _, _, _, _, rfl⟩ (fun _ _ _ _ _ => trivial) ?_ ?_⟩
    · intro i x σ Ha Hb hi p hy
      obtain ⟨x6, t, t1, t2, t3, t4, rfl⟩ := p
      obtain ⟨rfl, rfl⟩ := hy
      have hi : i < 60 := by omega
      have ei : (0 : Int) + (i : Int) = (i : Int) := by omega
      rw [ei]
      refine ⟨_, rfl, _, rfl, _, _, rfl, rfl, _, _, rfl, by omega, by omega, ?_⟩
      have hd0 := (dr_rng m (40 + (i : Int))).1
      generalize dr m (40 + (i : Int)) = d at hd0 ⊢
      obtain ⟨d, rfl⟩ : ∃ k : Nat, d = k := ⟨d.toNat, by omega⟩
      obtain ⟨n6, r6⟩ := r5.xt x6
      obtain ⟨wy, hwy⟩ : ∃ wy : Nat, wy = d % 4 := ⟨_, rfl⟩
      have hw4 : wy < 4 := by omega
      refine ⟨_, rfl, _, _, rfl, rfl, (show (0 : Int) < 4 by decide), ?_⟩
      show gName 8 (V.int ((d : Int) % 4)) _ _ _
      rw [show (d : Int) % 4 = (wy : Int) by omega]
      have hs1 : (0 : Int) < (sz : Int) + 1 := by omega
      obtain ⟨at_, hat, hat2⟩ : ∃ at_ : Nat, (d : Int) / 8 % ((sz : Int) + 1) = at_ ∧ at_ ≤ sz := by
        have h1 := Int.emod_nonneg ((d : Int) / 8) (show (sz : Int) + 1 ≠ 0 by omega)
        have h2 := Int.emod_lt_of_pos ((d : Int) / 8) hs1
        exact ⟨((d : Int) / 8 % ((sz : Int) + 1)).toNat, by omega, by omega⟩
      refine ⟨_, rfl, _, _, rfl, rfl, ⟨by decide, by decide⟩, _, rfl, _, _, rfl, rfl, _, _, rfl, rfl, hs1, ?_⟩
      show gName 9 (V.int ((d : Int) / 8 % ((sz : Int) + 1))) _ _ _
      rw [hat]
      refine ⟨_, rfl, r, _, _, rfl, r6.2.choose_spec, rfl, r, l, n6, rfl, r6, ?_⟩
      refine ⟨_, rfl, _, rfl, _, rfl, r, l, n6, wy, at_, rfl, hw4, by omega, r6, fun m7 H7 x7 r7 hm1 hm2 => ?_⟩
      refine ⟨_, rfl, _, rfl, _, rfl, l, wy, at_, rfl, hw4, by omega, hl4, fun H8 x8 => ?_⟩
      obtain ⟨dd, hdd, sdd⟩ := dp_asked (K := K) (H := H8) l wy at_
      refine neD_same hdd hdd sdd ⟨_, rfl, iteF ?_⟩
      have r8 := r7.xs x8
      refine ⟨_, rfl, r, _, _, rfl, r8.2.choose_spec, rfl, r, l, m7, rfl, r8, _, rfl, _, _, rfl, rfl, by exact (by decide : 4 ≤ sizeLine), fun p9 n9 => ?_⟩
      have x9 : Xs (tK K) H8 (upd H8 p9 (.lst [.int 31, .int 31, .int 32, .int 32])) := .new n9
      refine ⟨_, rfl, p9, _, _, .int (most wy), rfl, rfl, SqL.of (upd_same ..), atI_nat ?_, _, _, rfl, rfl, _, rfl, ite2 (fun h => ?_) (fun _ => ?_)⟩
      · match wy, hw4 with
        | 0, _ => rfl
        | 1, _ => rfl
        | 2, _ => rfl
        | 3, _ => rfl
      · have h := of_decide_eq_true h
        exfalso
        omega
      have r9 := r8.xs x9
      refine ⟨_, rfl, r, _, _, rfl, r9.2.choose_spec, rfl, r, l, m7, rfl, r9, _, rfl, _, _, rfl, rfl, _, rfl, ite2 (fun h => ?_) (fun _ => ?_)⟩
      · have h := of_decide_eq_true h
        exfalso
        omega
      exact ⟨x6.trans (x7.trans (x8.up.trans x9.up)), _, _, _, _, _, rfl⟩
    · intro σ H6 p
      obtain ⟨x6, t, t1, t2, t3, t4, rfl⟩ := p
      exact ⟨x5.trans x6, _, rfl, rfl⟩
end
end Tw

set_option maxHeartbeats 0
namespace Tw
open PySem PySem.Spec PyProof.Rows L2 LamX
theorem law_at {w : World} {K : PySem.W.Frag} {mg : Str → Option Value} {fa : Addr} {h : Heap} (X : K.In h) (G : h.Ns mainGlobals mg) (hfa : mg ("law" : Str) = some (.ref fa)) (c : He.SaysX faL fnL [] tf exL w h K) :
    LamX.LawAtS PySem.Challenge.rw_tersewood_k21_room_and_looks w K (L2N.CX PySem.Challenge.rw_tersewood_k21_room_and_looks.prog w) 14 63 "_law_script" mg fa h := by
  have T : Tx K mg := ⟨⟨h, X, G, c.t.d⟩, c.more⟩
  have e := hfa.symm.trans T.g_law
  cases e
  refine ⟨fdOf K ("law", none), tf.map (He.cT K), spLaw K, fun p hp => ?_, fun p hp => ?_, fun p hp => ?_, fun s u => T.F_law.bindsA (ps := ["_law_script"]) (fun _ _ _ _ _ _ us hl => match us, hl with | [_], _ => rfl) s [u] rfl, fun H a ns hl hb hT hS => ?_, fun base KB GB hB => ok_law T⟩
  · obtain ⟨d, hd, rfl⟩ := List.mem_map.mp hp
    exact c.empty d hd
  · obtain ⟨d, hd, rfl⟩ := List.mem_map.mp hp
    exact c.out d hd
  · obtain ⟨d, hd, rfl⟩ := List.mem_map.mp hp
    exact PySem.W.codeHd_of_K X (c.hd d hd)
  · refine spLaw_of hS hl hb fun p hp => ?_
    unfold tK at hp
    simp only [List.mem_cons, List.not_mem_nil, or_false] at hp
end Tw
open PySem PySem.W PySem.Calls PyProof.Rows
theorem PySem.Challenge.cw_tersewood_k21_room_and_looks_holds : PySem.Challenge.rw_tersewood_k21_room_and_looks.Holds := by
  w_on; o_law
  refine HandSHeadRun.head_any (r := OpenLaw.row PySem.Challenge.rw_tersewood_k21_room_and_looks) (q := view (OpenLaw.row PySem.Challenge.rw_tersewood_k21_room_and_looks).prog [26]) (H := Tw.hk) (ob := Tw.ob) (M := 30000) (loose := Tw.loose) (d := HandSHeadRun.topDef (OpenLaw.row PySem.Challenge.rw_tersewood_k21_room_and_looks).prog 26) (kwd := []) Tw.ob_eq
    (by kernel_rfl) (fun s => by kernel_rfl) Tw.run (by kernel_rfl) (by kernel_rfl) (by kernel_rfl) (by rfl) (by first | assumption | decide +kernel) (by decide +kernel) ⟨rfl, rfl, rfl, rfl, rfl, by decide +kernel⟩ ?hw ?hc
  case hw => w_witness2
  case hc =>
    refine LamX.walk_ofTsE (l := PySem.Challenge.rw_tersewood_k21_room_and_looks) (n := 63) (k := 14) (x := "_law_script") (CX := fun w => L2N.CX PySem.Challenge.rw_tersewood_k21_room_and_looks.prog w) rfl (by decide) (by kernel_rfl) ⟨rfl, by decide, by decide⟩ ?F (fun w H s e s2 z => ?_)
    · intro w mg fa h Y G hmg0
      obtain ⟨K, KX, c⟩ := Y
      have hmg : mg ("law" : PySem.Str) = some (.ref fa) := by
        have e : (HandSHeadRun.topDef (OpenLaw.row PySem.Challenge.rw_tersewood_k21_room_and_looks).prog 26).name = ("law" : PySem.Str) := by kernel_rfl
        rw [← e]
        exact hmg0
      exact ⟨K, KX, Tw.law_at KX G hmg c⟩
    · obtain ⟨_, _, _, _, _, _, _, _, _, _, _, _, z⟩ := z
      exact z
