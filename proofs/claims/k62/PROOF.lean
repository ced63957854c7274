import PyProof.Rows.All
import Wide.All
import OpenK.AllK
import Wide.FinOn
import KE.KStateDown
import Lean
import HandS.ForMost
import HandS.Exc
import HandS.TryOnly
import HandS.ExcOwn
import HandS.ExcCtx
import HandS.HotCalls
import HandS.ExcIs
import HandS.Lambda
import PyProof.SumAny
import HandS.Comp
import HandS.Defaults
import HandS.IsInst
import HandS.HeadHook1
import HandS.HeadHook2
import HandS.WordsExc
import HandS.Wide
import HandS.Evl
import HandS.SortInts
import HandS.HeadHook3
import HandS.HeadHook4
import HandS.StrMore
import HandS.Head0
import HandS.Head1
import HandS.Head2
import HandS.HeadEnd
import HandS.HeadWalk
import HandS.Walk
import HandS.NestedK
import PyProof.P3Eq
import PyProof.StrBlock2
import PyProof.StrLawsFrom
import KE.GoesEnum
import HandS.Style
import PyProof.Rows.StrRev
import HandS.More
import HandS.WordsDict
import HandS.EndTab
import PySem.Challenge.RW_tersewood_k62_no_such_nodes
set_option Elab.async false
set_option linter.all false
set_option maxRecDepth 100000
set_option maxHeartbeats 4000000
namespace Tw
open PySem PySem.Spec PyProof.Rows L2 LamX
/-! ### a lambda called where what it lets out has no context (L2N) -/
section
variable {X : Cx} {pins : List (Addr × Obj)} {σ : L2.St} {H HZ : Hp} {s s1 : Shared}
/-- the wish of the lambda's frame -/
def lamW (X : Cx) (A : Around) (outer : List Env) (s : Shared) (H : Hp) (E : XK) (scope : Scope) (f c' : Addr) : Value → Shared → Prop :=
  fun e s' => wpAny (model X.prog X.w) (A.deeper (lamEnv X scope s.heap.objs.size f c')) (leaving (lamEnv X scope s.heap.objs.size f c') e)
    (fun _ s'' => L2N.CX X.prog X.w outer H s E e s'') (fun e' s'' => L2N.CX X.prog X.w outer H s E e' s'') s'
/-- the lambda's context, in L2N -/
def lamN (X : Cx) (A : Around) (outer : List Env) (s : Shared) (H : Hp) (E : XK) (scope : Scope) (f c' : Addr) : Cx :=
  (lamCx X A outer s H E scope f c').wish (lamW X A outer s H E scope f c')
theorem lamN_takes {A : Around} {outer : List Env} {E : XK} {scope : Scope} {f c' : Addr} :
    L2N.Takes (lamN X A outer s H E scope f c') (fun cls d _ H => E cls d H) :=
  L2N.takes_of (E₁ := fun e' s'' => L2N.CX X.prog X.w outer H s E e' s'') rfl rfl rfl rfl
/-- the call of a name that holds the lambda, in the def that got it -/
theorem act {CXg : CXT} {Eg : XK} {Ng : List Str} {qg : Str} {sg : Scope} {g f c' : Addr} {cdg pm ctv : Value} {params : Arguments} {body : Expr} {scope : Scope} {k i : Nat} {a : Str}
    {pn : List (Addr × Obj)} {xe : Value → Shared → Prop} {W : WX} {E : XK} {tb : TE} {p1 p2 : Pos}
    (I : Inv X pins σ H s) (L : LamS X.env.scope scope)
    (hf : s.heap.get? f = some (PySem.W.kla_obj "<lambda>" (X.env.qual ++ "<lambda>") params body scope (cloFrom X.env.cells scope.names []) pm c' ctv)) (hfn : H f = none) (hfr : f ∉ frs X.stack)
    (hbind : bindArgs (PySem.W.kla_fn "<lambda>" (X.env.qual ++ "<lambda>") params body scope (cloFrom X.env.cells scope.names []) pm (.ref c') ctv) ⟨[], []⟩ = pure [])
    (tk : L2N.Takes ((cxOf CXg X.prog X.w X.K X.mg X.base Ng qg sg g cdg X.A X.stack s H Eg).tr pn xe) W)
    (hW : ∀ cls d σ' H', E cls d H' → W cls d σ' H') (hr : Room (k + 1) (X.A.deeper (envOfC qg sg s.heap.objs.size g cdg)))
    (hbody : ∀ (A : Around) (outer : List Env) (s : Shared) (H : Hp), Room k (A.deeper (lamEnv X scope s.heap.objs.size f c')) → PE (lamN X A outer s H E scope f c') body tb)
    (hN : Ng[i]? = some a) (hv : Vis sg a) (hd : (a == ("__debug__" : Str)) = false) (hcd : (a == ("__classdict__" : Str)) = false) :
    PE ((cxOf CXg X.prog X.w X.K X.mg X.base Ng qg sg g cdg X.A X.stack s H Eg).tr pn xe) (.Call (.Name a p1) [] [] p2)
      (fun σZ HZ Q => σZ[i]? = some (some (.ref f)) ∧ HZ c' = some (CodeO c' (X.env.qual ++ "<lambda>")) ∧ tb σ HZ Q) := by
  constructor
  intro pinsZ sZ σZ HZ Q IZ ⟨hs, hc, ht⟩
  refine wpAny_Call_Name_kw (thn ((pe_var (pos := p1) (i := i) hN hv hd hcd).run pinsZ sZ σZ HZ (fun v H1 => v = .ref f ∧ H1 = HZ) IZ ⟨.ref f, hs, rfl, rfl⟩) fun u s1 ⟨v, H1, I1, r1, ev, eH⟩ => ?_)
  subst ev eH
  obtain rfl : u = Value.ref f := r1
  have un : Un (frs X.stack) [] H H1 s.heap s1.heap := I1.base
  have of1 := un.keep f _ hf hfn hfr (List.not_mem_nil)
  refine PySem.W.callWith_F0 ⟨_, _, _, _, of1⟩ ?_
  obtain ⟨⟨oc, vs, t, hoc, hdc, hvc⟩, _, _⟩ := I1.hok c' _ hc
  have rc : codeAny (model X.prog X.w) (X.A.deeper (envOfC qg sg s.heap.objs.size g cdg)) (.call (.ref f) ⟨[], []⟩) (CR (L2N.CX X.prog X.w) (envOfC qg sg s.heap.objs.size g cdg :: X.stack) X.prog X.w H1 s1 Q E) s1 := by
    refine PySem.W.kla_callFunE hr.depth of1 rfl L.co L.gen rfl ⟨c', oc, vs, t, rfl, hoc, hdc, hvc⟩ ?_
    rw [hbind]
    refine wpAny_pure (wpAny_newFunctionEnv (fun y hy => (L.own y hy).2) (fun y hy => absurd hy List.not_mem_nil) (fun h₁ hns hsb => ⟨I1.nolimit.fresh _ hsb, ?_⟩) L.kind)
    have kp : ∀ b o, s1.heap.get? b = some o → h₁.get? b = some o := fun b o e => hsb.extBut b o (Nat.ne_of_lt (Heap.lt_size e)) (Heap.get?_push_of_some _ e)
    have J := (lam_start2 (E := E) (A := X.A.deeper (envOfC qg sg s.heap.objs.size g cdg)) (outer := envOfC qg sg s.heap.objs.size g cdg :: X.stack) (f := f) (c' := c') (tk := s1.toks + ([] : List (Str × Value)).length) I L I1.env0 hr.hd un hns kp).wish
      (lamW X (X.A.deeper (envOfC qg sg s.heap.objs.size g cdg)) (envOfC qg sg s.heap.objs.size g cdg :: X.stack) s1 H1 E scope f c')
    refine PySem.W.kla_codeExpr (wpAny_mono ((hbody _ _ s1 H1 (hr.deeper _)).run [] _ _ H1 Q J ht) (fun v s' hq => ?_) fun e s' hq => hq)
    obtain ⟨w', H', J', rv, q⟩ := hq
    exact ⟨w', H', J'.os, J'.bare, J'.base, J'.hok, rv, q⟩
  refine wpAny_call (codeAny_mono rc fun r s' hq => ?_)
  cases r with
  | error e => exact L2N.passes_call tk hW pinsZ σZ H1 s1 e s' I1 hq
  | ok fl =>
    cases fl with
    | ret u => exact I1.after hq
    | next => exact hq.elim
    | brk => exact hq.elim
    | cont => exact hq.elim
end
end Tw

set_option maxHeartbeats 4000000
namespace Tw
open PySem PySem.Spec PyProof.Rows L2 HotX L2H
/-! ### lists walked while an exception is handled -/
section
variable {prog : Program} {w : World} {A : Around} {E : Value → Shared → Prop} {s : Shared}
/-- the list iterator's end, where an exception without a context is handled -/
theorem list_end_hot {it l x1 : Addr} {i : Nat} {items : Array Value} {Q : Option Value → Shared → Prop} (hot : HotAt A x1 s.heap) (hit : s.heap.IsListIter it l i) (hl : s.heap.IsList l items) (hx : items[i]? = none) (hne : x1 ≠ it)
    (hQ : ∀ h', Heap.ExtBut it s.heap h' → Q none { s with heap := h' }) : wpAny (model prog w) A (pyNext (.ref it)) Q E s := by
  obtain ⟨o, ho, hc, hd⟩ := id hit
  obtain ⟨ol, hol, _, nl, hdl⟩ := hl
  obtain ⟨hh, o1, vs1, h1, d1, c1⟩ := hot
  unfold pyNext
  refine wpAny_bind (wpAny_attempt (wpAny_callSpecial?_slot (name := Str.ofString "__next__") hit.typeIs slot_listiter_next (wpAny_call_entry slot_listiter_next hit.typeIs entry_listiter_next ?_ (args_listiter_next _))))
  show wpAny _ _ (field (.ref it) 0 >>= _) _ _ s
  refine wpAny_bind (wpAny_field ho hd (x := .ref l) rfl ?_)
  show wpAny _ _ (if (Value.ref l == Value.none) = true then _ else _) _ _ s
  rw [if_neg (show ¬ ((Value.ref l == Value.none) = true) from Bool.false_ne_true)]
  show wpAny _ _ (field (.ref it) 1 >>= _) _ _ s
  refine wpAny_bind (wpAny_field ho hd (x := .int i 0) rfl ?_)
  show wpAny _ _ (seqItems? (.ref l) >>= _) _ _ s
  refine wpAny_bind (wpAny_seqItems hol hdl ?_)
  simp only [Int.toNat_natCast, hx]
  refine wpAny_bind (wpAny_rule (wpAny_bind (wpAny_setField ho hd (by simp) ?_)))
  show wpAny _ _ (newExc (.type "StopIteration") [] >>= _) _ _ _
  refine wpAny_bind ?_
  simp only [newExc, newTuple]
  refine wpAny_bind (wpAny_newObj_type ?_ (by size_fits))
  refine wpAny_bind (m := firstArgMember _ _) (wpAny_of_eq (a := Value.none) (by first | rfl | (simp only [firstArgMember]; rfl)) ?_)
  refine wpAny_newObj_type ?_ (by size_fits)
  have k1 : ∀ (b : Addr) (u : Obj), b ≠ it → s.heap.get? b = some u → ∀ (f : Obj → Obj) (p q : Obj), (((s.heap.update it f).push p).push q).get? b = some u := fun b u hb e f p q =>
    Heap.get?_push_of_some _ (Heap.get?_push_of_some _ ((Heap.get?_update_other _ _ (Ne.symm hb)).trans e))
  have kx := k1 x1 o1 hne h1
  refine raiseNew_hot ⟨hh, o1, vs1, kx _ _ _, d1, c1⟩ (Nat.ne_of_lt (Heap.lt_size (Heap.get?_push_of_some _ ((Heap.get?_update_other _ _ (Ne.symm hne)).trans h1)))) (Heap.get?_push_size _ rfl) rfl (by first | (simp; done) | (simp; omega) | (simp only [Array.size_append]; simp; omega)) ?_
  refine wpAny_bind (wpAny_isInstance (T := "StopIteration") (b := true) ⟨_, Heap.get?_update_self _ (Heap.get?_push_size _ rfl) rfl, rfl⟩ isSubtype_stop ?_)
  refine wpAny_pure (hQ _ fun b u hb e => ?_)
  rw [Heap.get?_update_other _ _ (Nat.ne_of_gt (Heap.lt_size (Heap.get?_push_of_some _ ((Heap.get?_update_other _ _ (Ne.symm hb)).trans e))))]
  exact k1 b u hb e _ _ _
end

/-- a list walked there, for the library's sum -/
theorem walks_hot {prog : Program} {w : World} {A : Around} {x1 : Addr} {o1 : Obj} {vs1 : Array Value} (hh : A.handled = some (.ref x1)) (d1 : o1.data = .fields vs1) (c1 : vs1[2]? = some .none) (I ax : Addr) (hne : ax ≠ I) (hx : x1 ≠ I) (items : Array Value) :
    Walks prog w A I [I, ax, x1] [I] items.size (fun i v => items[i]? = some v) (fun i h => h.IsListIter I ax i ∧ h.IsList ax items ∧ h.get? x1 = some o1) where
  sub := fun b hb => by
    have e : b = I := List.mem_singleton.mp hb
    rw [e]
    exact List.mem_cons_self
  frame := fun _ _ _ st hk => ⟨st.1.at fun o e => hk I (by simp) o e, st.2.1.at fun o e => hk ax (by simp) o e, hk x1 (by simp) _ st.2.2⟩
  item := fun i s Q E hi st hQ => by
    refine wpAny_pyNext_list_item st.1 st.2.1 (x := items[i]) (by simp [hi]) fun h' hit' hs' => ?_
    exact hQ _ h' s.toks (by simp [hi]) ⟨hit', st.2.1.extBut hs'.extBut hne, hs'.extBut x1 _ hx st.2.2⟩ fun b o hb e => hs'.extBut b o (fun h => hb (by simp [h])) e
  done := fun s Q E st hQ => by
    refine list_end_hot ⟨hh, o1, vs1, st.2.2, d1, c1⟩ st.1 st.2.1 (by simp) hx fun h' eb => ?_
    exact hQ h' s.toks fun b o hb e => eb b o (fun h => hb (by simp [h])) e
  self := fun i s Q E st h => wpAny_pyIter_listiter st.1 h
section
variable {X : Cx} {pins : List (Addr × Obj)} {σ : L2.St} {H : Hp} {s : Shared}
/-- sum(xs) there -/
theorem cr_sumH (hc : HotC X) : CallR X (.builtin "sum") (rSum X.K) := by
  intro pins s σ H vs us Q I r h
  obtain ⟨a, ns, rfl, hs, q⟩ := h
  obtain ⟨its, rv, hl, _⟩ := I.list hs
  rw [Vals.ref1 r]
  obtain ⟨p, ⟨hh, v1, e1, c1⟩, hp⟩ := hc
  have P1 := (I.pin p (List.mem_append_left _ hp)).1
  have hi := rv.ints
  obtain ⟨xs, e⟩ := hi.allInts.items
  have hn : numsOf (intItems xs).toList = ns := by rw [← e]; exact hi.numsOf
  rw [nums_intItems] at hn
  have hl2 := hl.isList
  rw [e] at hl2
  refine call_sum_walkG (iter_intList hl2 fun s₂ es st hfp hlI => ?_)
  have k2 : ∀ b o, s.heap.get? b = some o → s₂.heap.get? b = some o := fun b o e => by
    rw [es]
    exact Heap.get?_push_of_some _ e
  have hx : p.1 ≠ s.heap.objs.size := Nat.ne_of_lt (Heap.lt_size P1)
  subst es
  refine ⟨_, _, _, _, _, _, numAt xs, rfl, walks_hot (A := X.A.in1) hh e1 c1 _ a hlI hx (intItems xs), ⟨st.1, st.2, k2 _ _ P1⟩, fun b hb => ?_, (fun _ _ => intItems_at), fun h' tk t' hk => ?_⟩
  · have hb2 : b = s.heap.objs.size ∨ b = a ∨ b = p.1 := by simpa using hb
    rcases hb2 with e | e | e
    · exact hfp b (by simp [e])
    · exact hfp b (by simp [e])
    · rw [e]
      exact Heap.lt_size (k2 _ _ P1)
  · refine ⟨.int _, H, I.kept (h' := h') (t' := tk) (old_kept hk), ⟨t', rfl⟩, ?_⟩
    have e4 : preSum (numAt xs) (intItems xs).size = ns.sum := by
      rw [show (intItems xs).size = xs.size by simp [intItems], preSum_eq, List.take_of_length_le (by simp), hn]
    rw [e4]
    exact q
end
end Tw

set_option maxHeartbeats 4000000
namespace Tw
open PySem PySem.Spec PyProof.Rows L2 HotX L2H
section
variable {X : Cx} {pins : List (Addr × Obj)} {σ : L2.St} {H : Hp} {s : Shared} {a it : Addr} {xs : List V} {i : Nat}
theorem list_item_any {A : Around} {E : Value → Shared → Prop} {x : V} (I : Inv X pins σ H s) (hq : SqL X.K H a xs) (hx : xs[i]? = some x) (st : s.heap.IsListIter it a i) (f : FpOk X pins H it) {Q : Option Value → Shared → Prop}
    (q : ∀ u s1, RelV x u → Inv X pins σ H s1 → s1.heap.IsListIter it a (i + 1) → Q (some u) s1) : wpAny (model X.prog X.w) A (pyNext (.ref it)) Q E s := by
  obtain ⟨its, rv, p, hz⟩ := I.list hq
  obtain ⟨u, hu, ru⟩ := rv.get hx
  obtain ⟨f0, f1, f2, f3, f4, f5⟩ := f
  refine wpAny_pyNext_list_item st p.isList (x := u) (by simpa using hu) fun h' st' sb => ?_
  exact q u _ ru (I.turned (t' := s.toks) (fun b o hb e => (sb.2 b hb).trans e) f0 f1 f3 f4 f5) st'
theorem list_done_hot {A : Around} {E : Value → Shared → Prop} {x1 : Addr} (I : Inv X pins σ H s) (hot : HotAt A x1 s.heap) (hq : SqL X.K H a xs) (hx : xs.length ≤ i) (st : s.heap.IsListIter it a i) (f : FpOk X pins H it) (hne : x1 ≠ it) {Q : Option Value → Shared → Prop}
    (q : ∀ s1, Inv X pins σ H s1 → Q none s1) : wpAny (model X.prog X.w) A (pyNext (.ref it)) Q E s := by
  obtain ⟨its, rv, p, hz⟩ := I.list hq
  obtain ⟨f0, f1, f2, f3, f4, f5⟩ := f
  have hl := rv.length
  exact list_end_hot hot st p.isList (by simp; omega) hne fun h' eb => q _ (I.turned (t' := s.toks) (fun b o hb e => eb b o hb e) f0 f1 f3 f4 f5)
end
section
variable {X : Cx}
/-- [elt for target in l] where an exception is handled; the list l stands still -/
def tLcH (K : PySem.W.Frag) (tl : TE) (g : TG) (te : TE) (vs : List Nat) : TE := fun σ H Q => tl σ H fun x H1 => ∃ a xs, x = .ref a ∧ SqL K H1 a xs ∧ ∀ D, H1 D = none → ∃ W : Nat → Hp → Prop, W 0 (upd H1 D (.lst [])) ∧ (∀ i H, W i H → SqL K H a xs) ∧
  (∀ i x H, xs[i]? = some x → W i H → g x (wipe σ vs) H fun σ2 H2 => wipe σ2 vs = wipe σ vs ∧ te σ2 H2 fun y H4 => ∃ acc, H4 D = some (.lst acc) ∧ acc.length < sizeLine ∧ W (i + 1) (upd H4 D (.lst (acc ++ [y])))) ∧
  (∀ H, W xs.length H → Q (.ref D) H)
theorem pe_lcH {elt tg iter : Expr} {scope : Scope} {own : List (Str × Nat)} {pos : Pos} {tl : TE} {g : TG} {te : TE} (hc : HotC X) (hN : X.N.Nodup) (hl : PE X iter tl) (ok : BlkOk X.N X.env.scope scope own)
    (hg : ∀ (s : Shared) (H : Hp) (C : Addr) (cl : List (Str × Addr)) (fp : List Addr), PG (X.blk s H scope (compEnvC scope cl C X.env) fp) tg g)
    (he : ∀ (s : Shared) (H : Hp) (C : Addr) (cl : List (Str × Addr)) (fp : List Addr), PE (X.blk s H scope (compEnvC scope cl C X.env) fp) elt te) (hs : ∀ x, foldedSetIterable iter X.env x = pure x := by intro _; rfl) :
    PE X (.ListComp elt [⟨tg, iter, [], 0⟩] scope pos) (tLcH X.K tl g te (own.map (·.2))) := by
  refine ⟨fun pins s σ H Q I h => ?_⟩
  rw [eval_ListComp]
  have hfree : ∀ y ∈ scope.names, y.2 = .free → ∃ c, X.env.cells.lookup y.1 = some c := fun y hy e => by
    rcases ok.free y hy e with k | k
    · exact I.ok.has _ (.inl k)
    · exact I.ok.has _ (.inr k)
  obtain ⟨p, ⟨hh, v1, e1, c1⟩, hp⟩ := hc
  refine wpAny_comprehension_free (use := none) rfl hs (closure_ok hfree) ok.kind (fun y hy e => by rw [ok.uniq y hy, e]) ?_
  refine thn (hl.run pins s σ H _ I h) fun v s1 ⟨x, H1, I1, r1, a, xs, ex, hq, step⟩ => ?_
  subst ex
  cases r1
  obtain ⟨its, rv, pl, hz⟩ := I1.list hq
  refine wpAny_pyIter_list pl.isList ?_
  -- the iterator, the new list, the block's frame
  generalize hit : s1.heap.objs.size = it
  have I2 : Inv X pins σ H1 { s1 with heap := s1.heap.push { cls := .type "list_iterator", data := .fields #[.ref a, .int 0 0] } } := I1.kept (t' := s1.toks) fun b o e => Heap.get?_push_of_some _ e
  have f2 : FpOk X pins H1 it := by
    have z := I1.fpOk (H' := H1) (b := it) (by rw [← hit]; exact Nat.le_refl _) (I1.hok.fresh (by rw [← hit]; exact Nat.le_refl _))
    exact z
  have st2 : ({ s1 with heap := s1.heap.push { cls := .type "list_iterator", data := .fields #[.ref a, .int 0 0] } } : Shared).heap.IsListIter it a 0 := ⟨_, by rw [← hit]; exact Heap.get?_push_size _ rfl, rfl, rfl⟩
  generalize ({ s1 with heap := s1.heap.push { cls := .type "list_iterator", data := .fields #[.ref a, .int 0 0] } } : Shared) = s2 at I2 st2 ⊢
  refine wpAny_newObj_type (newEnv_comp ?_) (by show 0 ≤ sizeLine; decide)
  generalize hD : s2.heap.objs.size = D
  have hDn : H1 D = none := I2.hok.fresh (Nat.le_of_eq hD)
  obtain ⟨W, w0, wl, wt, we⟩ := step D hDn
  generalize hs3 : ({ s2 with heap := s2.heap.push { cls := .type "list", data := .seq ([] : List Value).toArray } } : Shared) = s3
  have h3 : s3.heap = s2.heap.push { cls := .type "list", data := .seq ([] : List Value).toArray } := by rw [← hs3]
  have I3 : Inv X pins σ (upd H1 D (.lst [])) s3 := by
    rw [← hs3]
    refine I2.laid (t' := s2.toks) (fun b o e => Heap.get?_push_of_some _ e) (Nat.le_of_eq hD) ⟨Nat.zero_le _, [], 0, .nil, ?_⟩
    rw [← hD]
    exact Heap.get?_push_size _ rfl
  have ltI : it < s2.heap.objs.size := by
    obtain ⟨o, e, _⟩ := st2
    exact Heap.lt_size e
  have f3 : ∀ b ∈ [it], FpOk X pins (upd H1 D (.lst [])) b ∧ b < s3.heap.objs.size := fun b hb => by
    have eb : b = it := List.mem_singleton.mp hb
    subst eb
    refine ⟨⟨?_, f2.2⟩, by rw [h3, Heap.size_push]; exact Nat.lt_succ_of_lt ltI⟩
    rw [upd_ne (by rw [← hD]; exact Nat.ne_of_lt ltI)]
    exact f2.1
  have st3 : s3.heap.IsListIter it a 0 := st2.at fun o e => by rw [h3]; exact Heap.get?_push_of_some _ e
  have P3 := I3.pin p (List.mem_append_left _ hp)
  have hx1 : p.1 ≠ it := (f3 it List.mem_cons_self).1.2.2.2.2.2 p (List.mem_append_left _ hp)
  have I4 := block_start I3 ok hN f3
  have pg := hg s3 (upd H1 D (.lst [])) s3.heap.objs.size (cellsFrom (s3.heap.objs.size + 1) scope.names (cloFrom X.env.cells scope.names [])) [it]
  have pe := he s3 (upd H1 D (.lst [])) s3.heap.objs.size (cellsFrom (s3.heap.objs.size + 1) scope.names (cloFrom X.env.cells scope.names [])) [it]
  show codeAny _ _ (.compStart (.ListComp elt [⟨tg, iter, [], 0⟩] scope pos) 0 (.ref it) (.ref D) (compEnvC scope (cellsFrom (s3.heap.objs.size + 1) scope.names (cloFrom X.env.cells scope.names [])) s3.heap.objs.size X.env)) (compPost (model X.prog X.w) X.A X.xe none (EP X pins σ Q) (.ref D) s3.heap.objs.size) { s3 with heap := pushCells (s3.heap.push { cls := .type "dict", data := .dict #[] }) scope.names }
  generalize hce : compEnvC scope (cellsFrom (s3.heap.objs.size + 1) scope.names (cloFrom X.env.cells scope.names [])) s3.heap.objs.size X.env = ce at I4 pg pe ⊢
  have cL : ce.locals = s3.heap.objs.size := by subst hce; rfl
  generalize hH3 : upd H1 D (.lst []) = H3 at I3 I4 pg pe w0 f3 P3
  generalize hs4 : ({ s3 with heap := pushCells (s3.heap.push { cls := .type "dict", data := .dict #[] }) scope.names } : Shared) = s4 at I4 ⊢
  have k4 : ∀ b o, s3.heap.get? b = some o → s4.heap.get? b = some o := fun b o e => by
    rw [← hs4]
    exact pushCells_keeps _ _ _ _ (Heap.get?_push_of_some _ e)
  have st4 : s4.heap.IsListIter it a 0 := st3.at fun o e => k4 _ _ e
  have J4 : Inv (X.blk s3 H3 scope ce [it]) [p] (wipe σ (own.map (·.2))) H3 s4 := I4.pins_of fun q hq => by
    have eq : q = p := List.mem_singleton.mp hq
    subst eq
    refine ⟨k4 _ _ P3.1, P3.2.1, ?_, fun z => ?_, P3.2.2.2.2⟩
    · show q.1 ≠ ce.locals
      rw [cL]
      exact Nat.ne_of_lt (Heap.lt_size P3.1)
    · exact (List.mem_cons.mp (I3.stkSub q.1 z)).elim P3.2.2.1 P3.2.2.2.1
  have stat : ∀ {σ' : L2.St} {H' : Hp} {s' : Shared}, Inv (X.blk s3 H3 scope ce [it]) [p] σ' H' s' → H' it = none → FpOk (X.blk s3 H3 scope ce [it]) [p] H' it := fun {σ' H' s'} I' hn =>
    ⟨hn, (I'.ok.exf it List.mem_cons_self).1, I'.ok.exfs it List.mem_cons_self, .inl List.mem_cons_self, fun x c e => (I'.ok.exf it List.mem_cons_self).2 x c e, fun q hq => by
      have eq : q = p := by simpa using (show q ∈ ([] : List (Addr × Obj)) ++ [p] from hq)
      rw [eq]
      exact hx1⟩
  have loop : codeAny (model X.prog X.w) X.A (.compLoop (.ListComp elt [⟨tg, iter, [], 0⟩] scope pos) 0 (.ref it) (.ref D) ce) (compPost (model X.prog X.w) X.A X.xe none (EP X pins σ Q) (.ref D) s3.heap.objs.size) s4 := by
    refine compLoop_any (fun n s' => ∃ i H', i + n = xs.length ∧ Inv (X.blk s3 H3 scope ce [it]) [p] (wipe σ (own.map (·.2))) H' s' ∧ s'.heap.IsListIter it a i ∧ H' it = none ∧ W i H') ?_ xs.length ⟨0, H3, Nat.zero_add _, J4, st4, (f3 it List.mem_cons_self).1.1, w0⟩
    rintro n s5 ⟨i, H5, ein, I5, st5, n5, w5⟩
    have P5 := I5.pin p (by simp)
    have hot5 : HotAt X.A p.1 s5.heap := ⟨hh, p.2, v1, P5.1, e1, c1⟩
    have q5 : SqL X.K H5 a xs := wl i H5 w5
    cases n with
    | zero =>
      refine list_done_hot I5 hot5 q5 (by omega) st5 (stat I5 n5) hx1 fun s6 I6 => ?_
      have ei : i = xs.length := by omega
      rw [ei] at w5
      have I7 : Inv X pins σ H5 s6 := I3.call' (ch := [it]) I6.os I6.base I6.hok I6.bare fun b hb => ⟨(f3 b hb).1.2.2.2.1, (f3 b hb).1.2.1, (f3 b hb).1.2.2.2.2.1, (f3 b hb).1.2.2.2.2.2⟩
      have nC : H5 s3.heap.objs.size = none := by
        have z : H5 ce.locals = none := I6.free
        rw [cL] at z
        exact z
      obtain ⟨m, hn, _⟩ := I6.loc
      have hn : s6.heap.Ns ce.locals m := hn
      rw [cL] at hn
      refine ⟨m, hn, fun h'' sb => ?_⟩
      obtain ⟨f0, f1, f2, f3, f4, f5⟩ := I3.fpOk (Nat.le_refl _) nC
      exact ⟨.ref D, H5, I7.turned (t' := s6.toks) (fun b o hb e => (sb.2 b hb).trans e) f0 f1 f3 f4 f5, rfl, we H5 w5⟩
    | succ n =>
      have hi : i < xs.length := by omega
      have hx : xs[i]? = some xs[i] := List.getElem?_eq_getElem hi
      refine list_item_any I5 q5 hx st5 (stat I5 n5) fun u s6 ru I6 st6 => ?_
      obtain ⟨oi, ei, ci, di⟩ := id st6
      refine go_of ei ci di (by decide) ?_
      have I6' : Inv (X.blk s3 H3 scope ce [it]) ([p] ++ [(it, oi)]) (wipe σ (own.map (·.2))) H5 s6 := I6.pins_of fun q hq => by
        rcases List.mem_append.mp hq with z | z
        · exact I6.pin q (List.mem_append_right _ z)
        · have eq : q = (it, oi) := List.mem_singleton.mp z
          subst eq
          obtain ⟨g0, g1, g2, _⟩ := stat I6 n5
          exact ⟨ei, g0, g1, g2, fun v z => by rw [di] at z; cases z⟩
      refine thnF (pg.run _ s6 _ H5 xs[i] u _ I6' ru (wt i _ H5 hx w5)) fun _ s8 ⟨σ8, H8, I8, hw8, q8⟩ => ?_
      refine wpAny_tests_nil ?_
      rw [if_pos rfl]
      refine thnF (pe.run _ s8 σ8 H8 _ I8 q8) fun z s10 ⟨yv, H10, I10, r10, acc, hD10, hz10, nx⟩ => ?_
      refine app_ok (X := X.blk s3 H3 scope ce [it]) I10 hD10 hz10 r10 fun s11 I11 => ?_
      have PI := I11.pin (it, oi) (by simp)
      have hl : (wipe σ (own.map (·.2))).length = σ8.length := by rw [← hw8, wipe_length]
      refine ⟨n, Nat.lt_succ_self _, i + 1, _, by omega, (I11.pins_of (pins' := [p]) fun q hq => I11.pin q (by simp at hq ⊢; exact .inl hq)).weak hl (fun j v e => ?_), ⟨oi, PI.1, ci, di⟩, PI.2.1, nx⟩
      rw [← hw8] at e
      exact (wipe_some e).1
  exact codeAny_compStart_list loop (wpAny_pyIter_listiter st4 loop)
end
end Tw

set_option maxHeartbeats 4000000
namespace Tw
open PySem PySem.Spec PyProof.Rows L2 LamX
/-! ### what stays from one heap to a later one: all but tables of code objects, which stay tables; an instance's field "seen" may change -/
def sn (n : Int) : List (Str × V) := [("seen", .int n)]
def Sn (lo : Prop) (o o' : HO) : Prop := o' = o ∨ lo ∧ ∃ (C dx : Addr) (fs : List (Str × V)) (n n' : Int), o = .ins C dx (fs ++ sn n) ∧ o' = .ins C dx (fs ++ sn n')
theorem Sn.refl {lo : Prop} {o : HO} : Sn lo o o := .inl rfl
theorem Sn.trans {lo : Prop} {o p q : HO} (a : Sn lo o p) (b : Sn lo p q) : Sn lo o q := by
  rcases a with rfl | ⟨hl, C, dx, fs, n, n1, e1, e2⟩
  · exact b
  · rcases b with rfl | ⟨_, C2, dx2, fs2, n2, n3, e3, e4⟩
    · exact .inr ⟨hl, C, dx, fs, n, n1, e1, e2⟩
    · rw [e2] at e3
      injection e3 with h1 h2 h3
      have h4 := congrArg List.dropLast h3
      unfold sn at h4
      rw [List.dropLast_concat, List.dropLast_concat] at h4
      subst h1 h2 h4
      exact .inr ⟨hl, C, dx, fs, n, n3, e1, e4⟩
/-- such an object stays as it is -/
def Fix (o : HO) : Prop := ∀ C dx fs, o ≠ .ins C dx fs
theorem Sn.fix {lo : Prop} {o o' : HO} (h : Sn lo o o') (f : Fix o) : o' = o := by
  rcases h with h | ⟨_, C, dx, fs, n, n', h, _⟩
  · exact h
  · exact absurd h (f _ _ _)
theorem Sn.tbl {lo : Prop} {o o' : HO} (h : Sn lo o o') (f : ∀ ps, o ≠ .tbl ps) : ∀ ps, o' ≠ .tbl ps := by
  rcases h with h | ⟨_, C, dx, fs, n, n', _, h⟩
  · rw [h]
    exact f
  · rw [h]
    exact fun ps e => nomatch e
structure Xg (lo : Prop) (T : List (Addr × Str)) (H H' : Hp) : Prop where
  st : ∀ b o, H b = some o → (∀ ps, o ≠ .tbl ps) → ∃ o', H' b = some o' ∧ Sn lo o o'
  tb : Tabs T H → Tabs T H'
/-- loose: looks may be counted; strict: all stays -/
abbrev Xt (T : List (Addr × Str)) (H H' : Hp) : Prop := Xg True T H H'
abbrev Xs (T : List (Addr × Str)) (H H' : Hp) : Prop := Xg False T H H'
section
variable {lo : Prop} {T : List (Addr × Str)} {H H1 H2 : Hp} {K : PySem.W.Frag} {a p : Addr} {o : HO} {xs : List V}
theorem Xg.ex (e : ExtN H H1) (t : Tabs T H1) : Xg lo T H H1 := ⟨fun b o h n => ⟨o, e b o h n, .refl⟩, fun _ => t⟩
theorem Xg.refl : Xg lo T H H := ⟨fun _ o h _ => ⟨o, h, .refl⟩, id⟩
theorem Xg.trans (a : Xg lo T H H1) (b : Xg lo T H1 H2) : Xg lo T H H2 := ⟨fun c o h n => by
  obtain ⟨o1, h1, s1⟩ := a.st c o h n
  obtain ⟨o2, h2, s2⟩ := b.st c o1 h1 (s1.tbl n)
  exact ⟨o2, h2, s1.trans s2⟩, fun t => b.tb (a.tb t)⟩
theorem Xg.of (e : ∀ b o, H b = some o → H1 b = some o) : Xg lo T H H1 := ⟨fun b o h _ => ⟨o, e b o h, .refl⟩, fun t => t.ext e⟩
theorem Xg.new (h : H p = none) : Xg lo T H (upd H p o) := .of fun b u e => by rw [upd_ne (ne_of_none e h)]; exact e
/-- no table, no code object stands at p -/
def Pl (H : Hp) (p : Addr) : Prop := ∀ u, H p = some u → (∀ ps, u ≠ .tbl ps) ∧ ∀ f, u ≠ .ext f
theorem Pl.lst (h : H p = some (.lst xs)) : Pl H p := fun u e => by
  rw [h] at e
  cases e
  exact ⟨fun ps z => (nomatch z), fun f z => (nomatch z)⟩
theorem Pl.ins {C dx : Addr} {fs : List (Str × V)} (h : H p = some (.ins C dx fs)) : Pl H p := fun u e => by
  rw [h] at e
  cases e
  exact ⟨fun ps z => (nomatch z), fun f z => (nomatch z)⟩
theorem tabs_upd {H' : Hp} (t : Tabs T H') (h : Pl H' p) : Tabs T (upd H' p o) := fun q hq => by
  obtain ⟨ps, h1, h2, h3⟩ := t q hq
  refine ⟨ps, by rw [upd_ne fun z => by rw [z] at h1; exact (h _ h1).1 _ rfl]; exact h1, h2, fun pos cv hc => ?_⟩
  obtain ⟨c, e1, e2⟩ := h3 pos cv hc
  exact ⟨c, e1, by rw [upd_ne fun z => by rw [z] at e2; exact (h _ e2).2 _ rfl]; exact e2⟩
/-- no proper object of H stands at p -/
def Nw (H : Hp) (p : Addr) : Prop := ∀ o, H p = some o → ∃ ps, o = .tbl ps
theorem Nw.of (h : H p = none) : Nw H p := fun o e => by
  rw [h] at e
  cases e
theorem Xg.nw (e : Xg lo T H H1) (h : Nw H1 p) : Nw H p := fun o ho => by
  cases o with
  | tbl ps => exact ⟨ps, rfl⟩
  | _ =>
    obtain ⟨o', h1, s⟩ := e.st p _ ho fun ps z => by cases z
    obtain ⟨ps, h2⟩ := h _ h1
    exact absurd h2 (s.tbl (fun ps z => by cases z) ps)
theorem Nw.ne (h : Nw H p) (ha : H a = some o) (ho : ∀ ps, o ≠ .tbl ps) : a ≠ p := fun z => by
  rw [z] at ha
  obtain ⟨ps, e⟩ := h _ ha
  exact ho ps e
theorem Nw.nl (h : Nw H p) (ha : H a = some (.lst xs)) : a ≠ p := h.ne ha fun ps z => by cases z
/-- an object that H does not know is written in a later heap -/
theorem Xg.put {H' : Hp} (e : Xg lo T H H') (h : Nw H p) (hl : Pl H' p) : Xg lo T H (upd H' p o) :=
  ⟨fun b u hb n => by rw [upd_ne (h.ne hb n)]; exact e.st b u hb n, fun t => tabs_upd (e.tb t) hl⟩
theorem Xg.mut {H' : Hp} {ys : List V} (e : Xg lo T H H') (h : Nw H p) (hl : H' p = some (.lst ys)) : Xg lo T H (upd H' p (.lst xs)) := e.put h (.lst hl)
/-- an instance's last field "seen" changes -/
theorem Xg.see (hlo : lo) {C dx : Addr} {fs : List (Str × V)} {n n' : Int} (h : H p = some (.ins C dx (fs ++ sn n))) : Xg lo T H (upd H p (.ins C dx (fs ++ sn n'))) :=
  ⟨fun b u hb _ => by
    by_cases e : b = p
    · subst e
      rw [h] at hb
      exact ⟨_, upd_same .., .inr ⟨hlo, C, dx, fs, n, n', (Option.some.inj hb).symm, rfl⟩⟩
    · exact ⟨u, by rw [upd_ne e]; exact hb, .refl⟩, fun t => tabs_upd t (.ins h)⟩
theorem Xg.fix (e : Xg lo T H H1) (h : H a = some o) (f : Fix o) (n : ∀ ps, o ≠ .tbl ps) : H1 a = some o := by
  obtain ⟨o', h1, s⟩ := e.st a o h n
  rw [h1, s.fix f]
theorem Xg.lst (e : Xg lo T H H1) (h : H a = some (.lst xs)) : H1 a = some (.lst xs) := e.fix h (fun _ _ _ z => by cases z) fun ps z => by cases z
theorem Xg.tup (e : Xg lo T H H1) (h : H a = some (.tup xs)) : H1 a = some (.tup xs) := e.fix h (fun _ _ _ z => by cases z) fun ps z => by cases z
theorem Xg.ins {C dx : Addr} {fs : List (Str × V)} (e : Xg lo T H H1) (h : H a = some (.ins C dx fs)) (hs : ∀ fs' n, fs ≠ fs' ++ sn n) : H1 a = some (.ins C dx fs) := by
  obtain ⟨o', h1, s⟩ := e.st a _ h fun ps z => by cases z
  rcases s with s | ⟨_, C2, dx2, fs2, n, n', s1, s2⟩
  · rw [h1, s]
  · injection s1 with _ _ s1
    exact absurd s1 (hs _ _)
theorem Xg.insSeen {C dx : Addr} {fs : List (Str × V)} {n : Int} (e : Xg lo T H H1) (h : H a = some (.ins C dx (fs ++ sn n))) : ∃ n', H1 a = some (.ins C dx (fs ++ sn n')) := by
  obtain ⟨o', h1, s⟩ := e.st a _ h fun ps z => by cases z
  rcases s with s | ⟨_, C2, dx2, fs2, n2, n', s1, s2⟩
  · exact ⟨n, by rw [h1, s]⟩
  · injection s1 with e1 e2 s1
    have h4 := congrArg List.dropLast s1
    unfold sn at h4
    rw [List.dropLast_concat, List.dropLast_concat] at h4
    subst e1 e2 h4
    exact ⟨n', by rw [h1, s2]⟩
theorem Xg.seq (e : Xg lo T H H1) (h : SqL K H a xs) : SqL K H1 a xs := by
  rcases h with (h | ⟨o, h⟩) | h
  · exact .inl (.inl (e.lst h))
  · exact .inl (.inr ⟨o, e.fix h (fun _ _ _ z => by cases z) fun ps z => by cases z⟩)
  · exact .inr h
theorem Xg.seqT (e : Xg lo T H H1) (h : SqT K H a xs) : SqT K H1 a xs := by
  rcases h with (h | ⟨o, h⟩) | h
  · exact .inl (.inl (e.tup h))
  · exact .inl (.inr ⟨o, e.fix h (fun _ _ _ z => by cases z) fun ps z => by cases z⟩)
  · exact .inr h
theorem Xg.up (e : Xs T H H1) : Xt T H H1 := ⟨fun b o h n => by
  obtain ⟨o', h1, s⟩ := e.st b o h n
  rcases s with s | ⟨z, _⟩
  · exact ⟨o', h1, .inl s⟩
  · exact z.elim, e.tb⟩
/-- strict: all but tables stays -/
theorem Xg.same (e : Xs T H H1) (h : H a = some o) (n : ∀ ps, o ≠ .tbl ps) : H1 a = some o := by
  obtain ⟨o', h1, s⟩ := e.st a o h n
  rcases s with s | ⟨z, _⟩
  · rw [h1, s]
  · exact z.elim
theorem Xt.new (h : H p = none) : Xt T H (upd H p o) := Xg.new h
theorem Xt.ex (e : ExtN H H1) (t : Tabs T H1) : Xt T H H1 := Xg.ex e t
theorem Xt.refl : Xt T H H := Xg.refl
theorem Xt.trans (a : Xt T H H1) (b : Xt T H1 H2) : Xt T H H2 := Xg.trans a b
theorem Xt.lst (e : Xt T H H1) (h : H a = some (.lst xs)) : H1 a = some (.lst xs) := Xg.lst e h
theorem Xt.seq (e : Xt T H H1) (h : SqL K H a xs) : SqL K H1 a xs := Xg.seq e h
theorem Xs.new (h : H p = none) : Xs T H (upd H p o) := Xg.new h
theorem Xs.refl : Xs T H H := Xg.refl
end
/-! ### a def called with the handled exception -/
structure FnHp (P : Program) (w : World) (K : PySem.W.Frag) (mg : Str → Option Value) (base : Heap) (k : Nat) (f : Addr) (fd : FuncData) (ps : List Str) (sp : Addr × Obj → List V → Hp → VK → Prop) : Prop where
  len : ∀ p vs H Q, sp p vs H Q → vs.length = ps.length
  run : ∀ (A : Around) (outer : List Env) (s : Shared) (H : Hp) (args : Args) (us : List Value) (vs : List V) (Q : VK) (p : Addr × Obj), L2H.RoomH k A → L2H.Hot1 A p → L2H.PinOk outer H s p → Env0 P w K mg base A outer s H → BindsTo s fd args (ps.zip us) → Vals vs us → sp p vs H Q →
    codeAny (model P w) A (.call (.ref f) args) (CR CX0 outer P w H s Q E0) s
section
variable {P : Program} {w : World} {K : PySem.W.Frag} {mg : Str → Option Value} {base : Heap}
theorem fn_hp {k : Nat} {x qual : Str} {params : Arguments} {body : List Stmt} {scope : Scope} {f : Addr} {fd : FuncData} {N ps : List Str} {sp : Addr × Obj → List V → Hp → VK → Prop} (F : FunD K x qual params body scope [] [] f fd) (S : FnScope N ps scope)
    (len : ∀ p vs H Q, sp p vs H Q → vs.length = ps.length)
    (hbody : ∀ (cdv : Value) (A : Around) (outer : List Env) (s : Shared) (H : Hp) (vs : List V) (Q : VK) (p : Addr × Obj), L2H.Hot1 A p → L2H.RoomH k (A.deeper (envOfC qual scope s.heap.objs.size f cdv)) → sp p vs H Q →
      ∃ t, PSs (L2H.cxH CX0 P w K mg base N qual scope f cdv A outer s H E0 p) body t ∧ t { nx := fun _ H' => Q .non H', rt := Q } (L2.start N vs) H) :
    FnHp P w K mg base (k + 1) f fd ps sp := by
  obtain ⟨oc, od, dV, kV, doc, pm, an, cdv, ct, osl, rfl, lk, hcd, _, _⟩ := F.ex
  refine ⟨len, fun A outer s H args us vs Q p hr hot hpin e0 hb r hsp => ?_⟩
  have hl := len _ _ _ _ hsp
  have KX : K.In s.heap := e0.mod.kin.keeps fun b o e => (e0.bs b o e).1
  have lim : s.heap.NoLimit := e0.mod.nolimit.keeps fun b o e => (e0.bs b o e).1
  refine codeAny_call_function hr.depth (KX _ _ lk) rfl S.co S.gen rfl (PySem.W.codeRec_of KX hcd) (hb _ _ _ _ ?_)
  refine wpAny_newFunctionEnv_cells S.kind (fun ⟨n, v⟩ hy => ?_) fun env he s1 x => ?_
  · exact (S.par n (List.of_mem_zip hy).1).imp id fun q => ⟨q, PySem.W.cellsFrom_some _ _ _ (.inl q)⟩
  subst he
  refine ⟨lim.keeps x.toInCall.keep, codeAny_func ?_⟩
  obtain ⟨t, ht, hq⟩ := hbody cdv A outer s H vs Q p hot (hr.deeper _) hsp
  refine wpAny_mono (ht.run [] s1 (L2.start N vs) H _ (L2H.inv_startH S hpin e0 hl r x) hq) (fun fl s' hs => ?_) fun e s' hs => hs
  cases fl with
  | ret u =>
    obtain ⟨v, σ', H', J, rv, q⟩ := hs
    exact ⟨v, H', J.os, J.bare, J.base, J.hok, rv, q⟩
  | next =>
    obtain ⟨σ', H', J, q⟩ := hs
    exact ⟨V.non, H', J.os, J.bare, J.base, J.hok, rfl, q⟩
  | brk =>
    obtain ⟨_, _, _, q⟩ := hs
    exact False.elim q
  | cont =>
    obtain ⟨_, _, _, q⟩ := hs
    exact False.elim q
end
section
variable {X : Cx} {k : Nat} {f : Addr} {fd : FuncData} {ps : List Str} {sp : Addr × Obj → List V → Hp → VK → Prop} {x : Str} {q pos : Pos} {e : Expr} {es : List Expr} {t : TA}
/-- its call, p the handled exception that the context bears -/
theorem pe_callHp {p : Addr × Obj} (F : FnHp X.prog X.w X.K X.mg X.base k f fd ps sp) (hr : L2H.RoomH k X.A) (hot : L2H.Hot1 X.A p) (hp : p ∈ X.pn) (hg : Gl X x) (hm : X.mg x = some (.ref f)) (hk : PySem.W.keepIn X.K (.ref f) = true) (hb : Binds X.K fd ps [])
    (ha : PA X (e :: es) t) (hdb : (x == ("__debug__" : Str)) = false) (he : starEach (e :: es) X.env = (false, eval e X.env) :: starEach es X.env := by rfl) (hpl : (backTo pos (starEach es X.env)).any (·.1) = false := by rfl) :
    PE X (.Call (.Name x q) (e :: es) [] pos) (fun σ H Q => t σ H fun vs H1 => sp p vs H1 Q) := by
  refine ⟨fun pins s σ H Q I h => ?_⟩
  refine wpAny_Call_Name_kw (ld_glob I hg hm ?_ hdb)
  refine PySem.W.callWith_K (h₀ := X.base) I.ok.mod.kin hk (thn (ha.run pos pins s σ H _ I h) fun us s1 ⟨vs, H1, I1, r, h2⟩ => ⟨I1.kIn, ?_⟩) he hpl
  have hl : us.length = ps.length := by rw [← r.length]; exact F.len _ _ _ _ h2
  have b := hb s1 us I1.kIn (by rw [List.append_nil]; exact hl)
  rw [List.append_nil] at b
  have P1 := I1.pin p (List.mem_append_left _ hp)
  have hpin : L2H.PinOk X.stack H1 s1 p := ⟨P1.1, P1.2.1, fun hm => (List.mem_cons.mp (I1.stkSub p.1 hm)).elim P1.2.2.1 P1.2.2.2.1, P1.2.2.2.2⟩
  refine wpAny_call (codeAny_mono (F.run X.A X.stack s1 H1 ⟨us, []⟩ us vs Q p hr hot hpin I1.env0 b r h2) fun r s' hq => ?_)
  cases r with
  | error e => exact hq.elim
  | ok fl =>
    cases fl with
    | ret u => exact I1.after hq
    | next => exact hq.elim
    | brk => exact hq.elim
    | cont => exact hq.elim
/-- isinstance(e, c), e a pinned exception -/
theorem call_isP {a D : Addr} {oe : Obj} (C : ExcC X.K D) (hp : (a, oe) ∈ X.pn) (hz : Zc (.ref D) none oe) (hf : ∃ vs, oe.data = .fields vs) : CallR X (.builtin "isinstance") (rIsE X.K D a) := by
  intro pins s σ H xs us Q I r h
  obtain ⟨c, cv, b, rfl, hcv, e, q⟩ := h
  cases r with
  | cons rx rr =>
    cases rr with
    | cons rt rr =>
      cases rr
      cases rx
      have ec := hcv _ rt
      subst ec
      obtain ⟨hget, _⟩ := I.pin (a, oe) (List.mem_append_left _ hp)
      obtain ⟨vs, hv⟩ := hf
      obtain ⟨oc, od, oda, osl⟩ := oe
      obtain ⟨h1, h2⟩ := hz
      dsimp only at h1 h2 hv
      subst h1 h2 hv
      exact PySem.W.kia_one (PySem.W.handS_kitx_exc C.hg C.hk C.hs C.hd C.ha C.hn C.ht C.hm) I.kIn (H := fun h => PySem.W.InstAt h a _ D none) ⟨hget, rfl, rfl, trivial⟩ e (fun z => nomatch z) fun tk => ⟨.bl b, H, I.kept (t' := tk) fun _ _ z => z, rfl, q⟩
end
end Tw

set_option maxHeartbeats 4000000
namespace Tw
open PySem PySem.Spec PyProof.Rows L2 LamX
/-! ### what the built-in names stand for -/
section
theorem b_len : bootBuiltins "len" = some (.builtin "len") := by decide +kernel
theorem b_max : bootBuiltins "max" = some (.builtin "max") := by decide +kernel
theorem b_min : bootBuiltins "min" = some (.builtin "min") := by decide +kernel
theorem b_sum : bootBuiltins "sum" = some (.builtin "sum") := by decide +kernel
theorem b_all : bootBuiltins "all" = some (.builtin "all") := by decide +kernel
theorem b_ord : bootBuiltins "ord" = some (.builtin "ord") := by decide +kernel
theorem b_sorted : bootBuiltins "sorted" = some (.builtin "sorted") := by decide +kernel
theorem b_isinstance : bootBuiltins "isinstance" = some (.builtin "isinstance") := by decide +kernel
theorem b_int : bootBuiltins "int" = some (.type "int") := by decide +kernel
theorem b_str : bootBuiltins "str" = some (.type "str") := by decide +kernel
theorem b_bool : bootBuiltins "bool" = some (.type "bool") := by decide +kernel
theorem b_list : bootBuiltins "list" = some (.type "list") := by decide +kernel
theorem b_tuple : bootBuiltins "tuple" = some (.type "tuple") := by decide +kernel
theorem b_set : bootBuiltins "set" = some (.type "set") := by decide +kernel
theorem b_ValueError : bootBuiltins "ValueError" = some (.type "ValueError") := by decide +kernel
end
/-! ### defs by names -/
/-- the function object of the def that stands at a place -/
def fdOf (K : PySem.W.Frag) (at_ : He.Defn) : FuncData := match K.lookup (He.fAd K at_) with
  | some ⟨_, _, .func fd, _⟩ => fd
  | _ => default
theorem fdOf_of {K : PySem.W.Frag} {at_ : He.Defn} {x q : Str} {ps : Arguments} {b : List Stmt} {sc : Scope} {d : List V} {k : List (Str × V)} {fd : FuncData} (F : FunD K x q ps b sc d k (He.fAd K at_) fd) : FunD K x q ps b sc d k (He.fAd K at_) (fdOf K at_) := by
  have e : fdOf K at_ = fd := by
    obtain ⟨oc, od, dV, kV, doc, pm, an, cdv, ct, osl, e, lk, _⟩ := F.ex
    unfold fdOf
    rw [lk]
  rw [e]
  exact F
abbrev OkN (P : Program) (w : World) (K : PySem.W.Frag) (mg : Str → Option Value) (base : Heap) (at_ : He.Defn) (k : Nat) (ps : List Str) (sp : Sp) : Prop := FnOk P w K mg base (L2N.CX P w) k (He.fAd K at_) (fdOf K at_) ps sp
/-! ### exceptions -/
structure ExcF (K : PySem.W.Frag) (mg : Str → Option Value) (x : Str) : Prop where
  g : mg x = some (.ref (He.ga K x))
  f : PySem.W.excIn K (He.ga K x) He.veBase "ValueError.__new__" = true ∧ PySem.W.keepIn K (.ref (He.ga K x)) = true ∧ PySem.W.subIn K (.ref (He.ga K x)) (.type "BaseException") = some true ∧ PySem.W.typeIn K (.ref (He.ga K x)) = some (.type "type")
section
variable {P : Program} {w : World} {K : PySem.W.Frag} {mg : Str → Option Value} {base : Heap} {N : List Str} {qual : Str} {scope : Scope} {f : Addr} {cd : Value} {A : Around} {outer : List Env} {s : Shared} {H : Hp} {E : XK}
/-- in a def's body: what a callee lets out leaves -/
theorem psE (σ : L2.St) : PassesAt (L2N.CX P w) (cxOf (L2N.CX P w) P w K mg base N qual scope f cd A outer s H E) σ ((fun _ => E) σ) :=
  L2N.passAt (W := fun cls d _ H' => E cls d H') (L2N.takes_of rfl rfl rfl rfl) σ
/-- raise C('..') in a def's body -/
theorem ps_rz {x m : Str} {j : Nat} {p p2 pos pos2 : Pos} (C : ExcF K mg x) (hg : scope.names.lookup x = some .globalImplicit) (hdb : (x == ("__debug__" : Str)) = false) :
    PS (cxOf (L2N.CX P w) P w K mg base N qual scope f cd A outer s H E) (.Raise (some (.Call (.Name x p) [.Constant (.str m) j p2] [] pos)) none pos2) (fun _ _ H' => E (.ref (He.ga K x)) none H') :=
  L2N.ps_raise (W := fun cls d _ H' => E cls d H') rfl (L2N.takes_of rfl rfl rfl rfl) (L2N.pmk_own (X := cxOf (L2N.CX P w) P w K mg base N qual scope f cd A outer s H E) PySem.F.excBase_ValueError C.f.1 C.g C.f.2.1 (raises_own C.f.2.2.1 C.f.2.2.2) hg hdb)
end
section
variable {X : Cx} {A : Around} {outer : List Env} {s : Shared} {H : Hp} {E : XK} {scope : Scope} {f c' : Addr}
/-- in a lambda's body -/
theorem psL (σ : L2.St) : PassesAt (L2N.CX X.prog X.w) (lamN X A outer s H E scope f c') σ ((fun _ => E) σ) :=
  L2N.passAt (W := fun cls d _ H' => E cls d H') lamN_takes σ
/-- in a block, nothing is let out -/
theorem ps0 {X : Cx} {P : Program} {w : World} (σ : L2.St) : PassesAt (L2N.CX P w) X σ ((fun _ => E0) σ) := fun _ _ _ _ _ _ h => by
  obtain ⟨_, _, _, _, _, _, _, _, _, _, _, _, z⟩ := h
  exact z.elim
theorem psP0 {X : Cx} {P : Program} {w : World} : Passes (L2N.CX P w) X E0 := fun pins σ H s e s' I c => ps0 σ pins H s e s' I c
end
section
variable {P : Program} {w : World} {K : PySem.W.Frag} {mg : Str → Option Value} {base : Heap} {N : List Str} {qual : Str} {scope : Scope} {f : Addr} {cd : Value} {A : Around} {outer : List Env} {s : Shared} {H : Hp} {E : XK}
theorem psP : Passes (L2N.CX P w) (cxOf (L2N.CX P w) P w K mg base N qual scope f cd A outer s H E) E := fun pins σ H s e s' I c => psE σ pins H s e s' I c
end
/-! ### the seven classes -/
def seven : List Str := ["BadNumber", "BadBits", "BadPlace", "BadText", "BadCode", "BadTree", "TooMany"]
def excCB (K : PySem.W.Frag) (C : Addr) : Bool :=
  decide (PySem.W.findIn K (.ref C) "__getattribute__" = some (some (.builtin "BaseException.__getattribute__"))) && (decide (PySem.W.findIn K (.ref C) "__getattr__" = some none) && (decide (PySem.W.subIn K (.ref C) (.type "BaseException") = some true) &&
  (PySem.W.hasDictIn K C && (decide (PySem.W.findIn K (.ref C) "__class__" = some (some (.builtin "object.__class__"))) && (decide (PySem.W.specialIn K (.builtin "object.__class__") "__get__" = some (some (.builtin "getset_descriptor.__get__"))) &&
  (decide (PySem.W.takesIn K (.builtin "object.__class__") = some true) && decide (PySem.W.mroIn K C (.type "object") = some true)))))))
theorem excCB_ok {K : PySem.W.Frag} {C : Addr} (h : excCB K C = true) : ExcC K C := by
  unfold excCB at h
  simp only [Bool.and_eq_true, decide_eq_true_eq] at h
  obtain ⟨h1, h2, h3, h4, h5, h6, h7, h8⟩ := h
  exact ⟨h1, h2, h3, h4, h5, h6, h7, h8⟩
/-- the seven, told apart -/
def exB (K : PySem.W.Frag) : Bool := seven.all fun x => excCB K (He.ga K x) && (decide (PySem.W.kitOne K (.ref (He.ga K x)) (.type "ValueError") = some true) && (decide (PySem.W.exmOne K (.ref (He.ga K x)) (.ref (He.ga K "TerseError")) = some true) && seven.all fun y => decide (PySem.W.kitOne K (.ref (He.ga K x)) (.ref (He.ga K y)) = some (decide (x = y)))))
structure Bad (K : PySem.W.Frag) (x : Str) : Prop where
  c : ExcC K (He.ga K x)
  v : PySem.W.kitOne K (.ref (He.ga K x)) (.type "ValueError") = some true
  t : PySem.W.exmOne K (.ref (He.ga K x)) (.ref (He.ga K "TerseError")) = some true
  k : ∀ y ∈ seven, PySem.W.kitOne K (.ref (He.ga K x)) (.ref (He.ga K y)) = some (decide (x = y))
theorem bad_of {K : PySem.W.Frag} {x : Str} (h : exB K = true) (hx : x ∈ seven) : Bad K x := by
  have h1 := List.all_eq_true.mp h x hx
  simp only [Bool.and_eq_true, decide_eq_true_eq] at h1
  obtain ⟨h1, h2, h3, h4⟩ := h1
  exact ⟨excCB_ok h1, h2, h3, fun y hy => of_decide_eq_true (List.all_eq_true.mp h4 y hy)⟩
end Tw

set_option maxHeartbeats 0
namespace Tw
open PySem PySem.Spec PyProof.Rows L2 LamX
def top (i : Nat) : Stmt := PySem.Challenge.pw_tersewood_k62_no_such_nodes.main.body.getD i (.Pass ⟨0, 0, 0, 0⟩)
def dd (n : Str) (i : Nat) : He.DefD := ⟨(n, none), n, n, defArgs (top i), defBody (top i), defScope (top i), [], []⟩
def dm (C m q : Str) (i j : Nat) : He.DefD := ⟨(C, some m), m, q, defArgs (inClass (top i) j), defBody (inClass (top i) j), defScope (inClass (top i) j), [], []⟩
def fnL : List He.DefD := [dd "needs" 11, dd "in_bits" 12, dd "out_of" 13, dd "need_bits" 14, dd "pack" 15, dd "need_packed" 16, dd "number_at" 17, dm "Row" "__init__" "Row.__init__" 21 0, dm "Row" "need" "Row.need" 21 1, dm "Row" "size" "Row.size" 21 2, dm "Row" "bits" "Row.bits" 21 3, dm "Row" "look" "Row.look" 21 4, dm "Row" "bit" "Row.bit" 21 5, dm "Row" "up_to" "Row.up_to" 21 6, dm "Row" "ones" "Row.ones" 21 7, dm "Row" "noughts" "Row.noughts" 21 8, dm "Row" "ahead" "Row.ahead" 21 9, dm "Row" "found_at" "Row.found_at" 21 10, dm "Row" "one_at" "Row.one_at" 21 11, dd "need_tree" 25, dm "Wood" "__init__" "Wood.__init__" 27 0, dm "Wood" "deep" "Wood.deep" 27 1, dm "Wood" "low" "Wood.low" 27 2, dm "Wood" "need" "Wood.need" 27 3, dm "Wood" "need_node" "Wood.need_node" 27 4, dm "Wood" "first_down" "Wood.first_down" 27 5, dm "Wood" "last_at" "Wood.last_at" 27 6, dm "Wood" "size" "Wood.size" 27 7, dm "Wood" "node" "Wood.node" 27 8, dm "Wood" "number" "Wood.number" 27 9, dm "Wood" "end" "Wood.end" 27 10, dm "Wood" "number_behind" "Wood.number_behind" 27 11, dm "Wood" "depth" "Wood.depth" 27 12, dm "Wood" "many" "Wood.many" 27 13, dm "Wood" "own_nodes" "Wood.own_nodes" 27 14, dm "Wood" "leaves" "Wood.leaves" 27 15, dm "Wood" "height" "Wood.height" 27 16, dm "Wood" "deepest" "Wood.deepest" 27 17, dm "Wood" "above" "Wood.above" 27 18, dm "Wood" "parent" "Wood.parent" 27 19, dm "Wood" "next_child" "Wood.next_child" 27 20, dm "Wood" "children" "Wood.children" 27 21, dm "Wood" "degree" "Wood.degree" 27 22, dm "Wood" "child" "Wood.child" 27 23, dm "Wood" "which" "Wood.which" 27 24, dm "Wood" "last_child" "Wood.last_child" 27 25, dm "Wood" "is_above" "Wood.is_above" 27 26, dm "Wood" "above_both" "Wood.above_both" 27 27, dm "Wood" "level_next" "Wood.level_next" 27 28, dd "_law_cell" 29, dd "_law_drawn" 30, dd "_law_word" 31, dd "_law_told" 32, dd "_law_tree" 33, dd "_law_bits_of" 34, dd "_law_deeds" 35, dd "law" 36]
def faL : List He.Fa := [.glo "needs", .glo "in_bits", .glo "out_of", .glo "need_bits", .glo "pack", .glo "need_packed", .glo "number_at", .glo "need_tree", .glo "_law_cell", .glo "_law_drawn", .glo "_law_word", .glo "_law_told", .glo "_law_tree", .glo "_law_bits_of", .glo "_law_deeds", .glo "law", .free "range", .free "str", .free "int", .free "all", .free "len", .free "sum", .free "min", .free "enumerate", .free "isinstance", .free "ValueError", .free "max", .int "BLOCK" 32, .int "MOST" 4096, .int "MOST_NODES" 1000, .int "MOST_DEEP" 200, .glo "TerseError", .exc "TerseError", .exm "TerseError" "TerseError" true, .glo "BadNumber", .exc "BadNumber", .exm "BadNumber" "TerseError" true, .glo "BadBits", .exc "BadBits", .exm "BadBits" "TerseError" true, .glo "BadPlace", .exc "BadPlace", .exm "BadPlace" "TerseError" true, .glo "BadText", .exc "BadText", .exm "BadText" "TerseError" true, .glo "BadCode", .exc "BadCode", .exm "BadCode" "TerseError" true, .glo "BadTree", .exc "BadTree", .exm "BadTree" "TerseError" true, .glo "TooMany", .exc "TooMany", .exm "TooMany" "TerseError" true, .glo "Row", .cls "Row", .mkr "Row", .noat "Row" "own", .noat "Row" "wide", .noat "Row" "whole_blocks", .noat "Row" "counts", .noat "Row" "seen", .meth "Row" "__init__", .meth "Row" "need", .meth "Row" "size", .meth "Row" "bits", .meth "Row" "look", .meth "Row" "bit", .meth "Row" "up_to", .meth "Row" "ones", .meth "Row" "noughts", .meth "Row" "ahead", .meth "Row" "found_at", .meth "Row" "one_at", .glo "Wood", .cls "Wood", .mkr "Wood", .noat "Wood" "row", .noat "Wood" "wide", .noat "Wood" "lows", .meth "Wood" "__init__", .meth "Wood" "deep", .meth "Wood" "low", .meth "Wood" "need", .meth "Wood" "need_node", .meth "Wood" "first_down", .meth "Wood" "last_at", .meth "Wood" "size", .meth "Wood" "node", .meth "Wood" "number", .meth "Wood" "end", .meth "Wood" "number_behind", .meth "Wood" "depth", .meth "Wood" "many", .meth "Wood" "own_nodes", .meth "Wood" "leaves", .meth "Wood" "height", .meth "Wood" "deepest", .meth "Wood" "above", .meth "Wood" "parent", .meth "Wood" "next_child", .meth "Wood" "children", .meth "Wood" "degree", .meth "Wood" "child", .meth "Wood" "which", .meth "Wood" "last_child", .meth "Wood" "is_above", .meth "Wood" "above_both", .meth "Wood" "level_next"]
abbrev R : PySem.W.OpenRow := PySem.W.OpenLaw.row PySem.Challenge.rw_tersewood_k62_no_such_nodes
def tf : List He.Defn := [("_law_deeds", none), ("law", none)]
def tK (K : PySem.W.Frag) : List (Addr × Str) := [((He.cT K ("_law_deeds", none)).2, (envOfC "_law_deeds" (defScope (top 35)) 0 0 .none).qual ++ "<lambda>"), ((He.cT K ("law", none)).2, (envOfC "law" (defScope (top 36)) 0 0 .none).qual ++ "<lambda>")]
def exL (K : PySem.W.Frag) : Bool := exB K && (decide ((He.cT K ("_law_deeds", none)).2 ≠ (He.cT K ("law", none)).2))
abbrev hk : PySem.W.Hook := He.hookX 5 faL fnL [] tf exL
def ob (s : PySem.W.SharedT) : He.AlX := He.obsX 5 faL fnL [] tf exL (HandSHeadRun.getT s)
theorem ob_eq (s : PySem.W.SharedT) : ob s = hk.obs s.abs := He.obsX_eq (HandSHeadRun.getT_eq s)
def loose0 : List Str := ["__name__", "_wall", "TerseError", "BadNumber", "BadBits", "BadPlace", "BadText", "BadCode", "BadTree", "TooMany", "needs", "in_bits", "out_of", "need_bits", "pack", "need_packed", "number_at", "BLOCK", "MOST", "Row"]
def loose1 : List Str := ["MOST_NODES", "MOST_DEEP", "need_tree", "Wood", "_law_cell", "_law_drawn", "_law_word", "_law_told", "_law_tree", "_law_bits_of", "_law_deeds"]
def loose : List Str := loose0 ++ loose1
theorem run (w : World) : HandSHeadRun.RunEq R (PySem.W.view R.prog [36]) hk ob 30000 loose w := by
  intro os
  kernel_rfl
structure Tx (K : PySem.W.Frag) (mg : Str → Option Value) : Prop where
  hx : ∃ h, K.In h ∧ h.Ns mainGlobals mg ∧ He.SaysD faL fnL K
  more : exL K = true
section
variable {K : PySem.W.Frag} {mg : Str → Option Value}
theorem Tx.fct (T : Tx K mg) (i : Nat) {f : He.Fa} (h : faL[i]? = some f) : f.ok K = true := T.hx.choose_spec.2.2.fact i h
theorem Tx.glo (T : Tx K mg) (i : Nat) {x : Str} (h : faL[i]? = some (.glo x)) : mg x = some (.ref (He.ga K x)) := He.glo_ok T.hx.choose_spec.1 T.hx.choose_spec.2.1 (T.fct i h)
theorem Tx.free (T : Tx K mg) (i : Nat) {x : Str} (h : faL[i]? = some (.free x)) : mg x = none := He.free_ok T.hx.choose_spec.1 T.hx.choose_spec.2.1 (T.fct i h)
theorem Tx.int (T : Tx K mg) (i : Nat) {x : Str} {z : Int} (h : faL[i]? = some (.int x z)) : ∃ t, mg x = some (.int z t) := He.int_ok T.hx.choose_spec.1 T.hx.choose_spec.2.1 (T.fct i h)
theorem Tx.str (T : Tx K mg) (i : Nat) {x z : Str} (h : faL[i]? = some (.str x z)) : ∃ t, mg x = some (.str z t) := He.str_ok T.hx.choose_spec.1 T.hx.choose_spec.2.1 (T.fct i h)
theorem Tx.fd (T : Tx K mg) (i : Nat) {d : He.DefD} (h : fnL[i]? = some d) (h1 : d.dfl = []) (h2 : d.kwd = []) : FunD K d.name d.qual d.params d.body d.scope [] [] (He.fAd K d.at_) (fdOf K d.at_) := by
  obtain ⟨fd, F⟩ := T.hx.choose_spec.2.2.def_ i h
  have e1 : d.dvs K = [] := by unfold He.DefD.dvs; rw [h1]; rfl
  have e2 : d.kws K = [] := by unfold He.DefD.kws; rw [h2]; rfl
  rw [e1, e2] at F
  exact fdOf_of F
abbrev s_needs : Stmt := top 11
theorem Tx.F_needs (T : Tx K mg) : FunD K "needs" "needs" (defArgs s_needs) (defBody s_needs) (defScope s_needs) [] [] (He.fAd K ("needs", none)) (fdOf K ("needs", none)) := T.fd 0 rfl rfl rfl
theorem Tx.B_needs (T : Tx K mg) : Binds K (fdOf K ("needs", none)) ["number"] [] := T.F_needs.bindsN fun _ _ _ _ _ _ us hl => match us, hl with | [_], _ => rfl
abbrev N_needs : List Str := ["number", "found"]
theorem sc_needs : FnScope N_needs ["number"] (defScope s_needs) := ⟨rfl, rfl, rfl, by decide +kernel, rfl, by decide +kernel, by decide +kernel⟩
abbrev s_in_bits : Stmt := top 12
theorem Tx.F_in_bits (T : Tx K mg) : FunD K "in_bits" "in_bits" (defArgs s_in_bits) (defBody s_in_bits) (defScope s_in_bits) [] [] (He.fAd K ("in_bits", none)) (fdOf K ("in_bits", none)) := T.fd 1 rfl rfl rfl
theorem Tx.B_in_bits (T : Tx K mg) : Binds K (fdOf K ("in_bits", none)) ["number", "wide"] [] := T.F_in_bits.bindsN fun _ _ _ _ _ _ us hl => match us, hl with | [_, _], _ => rfl
abbrev N_in_bits : List Str := ["number", "wide", "found", "turn"]
theorem sc_in_bits : FnScope N_in_bits ["number", "wide"] (defScope s_in_bits) := ⟨rfl, rfl, rfl, by decide +kernel, rfl, by decide +kernel, by decide +kernel⟩
abbrev s_out_of : Stmt := top 13
theorem Tx.F_out_of (T : Tx K mg) : FunD K "out_of" "out_of" (defArgs s_out_of) (defBody s_out_of) (defScope s_out_of) [] [] (He.fAd K ("out_of", none)) (fdOf K ("out_of", none)) := T.fd 2 rfl rfl rfl
theorem Tx.B_out_of (T : Tx K mg) : Binds K (fdOf K ("out_of", none)) ["bits"] [] := T.F_out_of.bindsN fun _ _ _ _ _ _ us hl => match us, hl with | [_], _ => rfl
abbrev N_out_of : List Str := ["bits", "found", "sign"]
theorem sc_out_of : FnScope N_out_of ["bits"] (defScope s_out_of) := ⟨rfl, rfl, rfl, by decide +kernel, rfl, by decide +kernel, by decide +kernel⟩
abbrev s_need_bits : Stmt := top 14
theorem Tx.F_need_bits (T : Tx K mg) : FunD K "need_bits" "need_bits" (defArgs s_need_bits) (defBody s_need_bits) (defScope s_need_bits) [] [] (He.fAd K ("need_bits", none)) (fdOf K ("need_bits", none)) := T.fd 3 rfl rfl rfl
theorem Tx.B_need_bits (T : Tx K mg) : Binds K (fdOf K ("need_bits", none)) ["bits"] [] := T.F_need_bits.bindsN fun _ _ _ _ _ _ us hl => match us, hl with | [_], _ => rfl
abbrev N_need_bits : List Str := ["bits", "sign"]
theorem sc_need_bits : FnScope N_need_bits ["bits"] (defScope s_need_bits) := ⟨rfl, rfl, rfl, by decide +kernel, rfl, by decide +kernel, by decide +kernel⟩
abbrev s_pack : Stmt := top 15
theorem Tx.F_pack (T : Tx K mg) : FunD K "pack" "pack" (defArgs s_pack) (defBody s_pack) (defScope s_pack) [] [] (He.fAd K ("pack", none)) (fdOf K ("pack", none)) := T.fd 4 rfl rfl rfl
theorem Tx.B_pack (T : Tx K mg) : Binds K (fdOf K ("pack", none)) ["numbers", "wide"] [] := T.F_pack.bindsN fun _ _ _ _ _ _ us hl => match us, hl with | [_, _], _ => rfl
abbrev N_pack : List Str := ["numbers", "wide", "number"]
theorem sc_pack : FnScope N_pack ["numbers", "wide"] (defScope s_pack) := ⟨rfl, rfl, rfl, by decide +kernel, rfl, by decide +kernel, by decide +kernel⟩
abbrev s_need_packed : Stmt := top 16
theorem Tx.F_need_packed (T : Tx K mg) : FunD K "need_packed" "need_packed" (defArgs s_need_packed) (defBody s_need_packed) (defScope s_need_packed) [] [] (He.fAd K ("need_packed", none)) (fdOf K ("need_packed", none)) := T.fd 5 rfl rfl rfl
theorem Tx.B_need_packed (T : Tx K mg) : Binds K (fdOf K ("need_packed", none)) ["bits", "wide"] [] := T.F_need_packed.bindsN fun _ _ _ _ _ _ us hl => match us, hl with | [_, _], _ => rfl
abbrev N_need_packed : List Str := ["bits", "wide"]
theorem sc_need_packed : FnScope N_need_packed ["bits", "wide"] (defScope s_need_packed) := ⟨rfl, rfl, rfl, by decide +kernel, rfl, by decide +kernel, by decide +kernel⟩
abbrev s_number_at : Stmt := top 17
theorem Tx.F_number_at (T : Tx K mg) : FunD K "number_at" "number_at" (defArgs s_number_at) (defBody s_number_at) (defScope s_number_at) [] [] (He.fAd K ("number_at", none)) (fdOf K ("number_at", none)) := T.fd 6 rfl rfl rfl
theorem Tx.B_number_at (T : Tx K mg) : Binds K (fdOf K ("number_at", none)) ["bits", "wide", "place"] [] := T.F_number_at.bindsN fun _ _ _ _ _ _ us hl => match us, hl with | [_, _, _], _ => rfl
abbrev N_number_at : List Str := ["bits", "wide", "place"]
theorem sc_number_at : FnScope N_number_at ["bits", "wide", "place"] (defScope s_number_at) := ⟨rfl, rfl, rfl, by decide +kernel, rfl, by decide +kernel, by decide +kernel⟩
abbrev s_Row_init : Stmt := inClass (top 21) 0
theorem Tx.F_Row_init (T : Tx K mg) : FunD K "__init__" "Row.__init__" (defArgs s_Row_init) (defBody s_Row_init) (defScope s_Row_init) [] [] (He.fAd K ("Row", some "__init__")) (fdOf K ("Row", some "__init__")) := T.fd 7 rfl rfl rfl
theorem Tx.B_Row_init (T : Tx K mg) : Binds K (fdOf K ("Row", some "__init__")) ["self", "bits"] [] := T.F_Row_init.bindsN fun _ _ _ _ _ _ us hl => match us, hl with | [_, _], _ => rfl
abbrev N_Row_init : List Str := ["self", "bits", "counts", "so_far", "block"]
theorem sc_Row_init : FnScope N_Row_init ["self", "bits"] (defScope s_Row_init) := ⟨rfl, rfl, rfl, by decide +kernel, rfl, by decide +kernel, by decide +kernel⟩
abbrev s_Row_need : Stmt := inClass (top 21) 1
theorem Tx.F_Row_need (T : Tx K mg) : FunD K "need" "Row.need" (defArgs s_Row_need) (defBody s_Row_need) (defScope s_Row_need) [] [] (He.fAd K ("Row", some "need")) (fdOf K ("Row", some "need")) := T.fd 8 rfl rfl rfl
theorem Tx.B_Row_need (T : Tx K mg) : Binds K (fdOf K ("Row", some "need")) ["self", "good"] [] := T.F_Row_need.bindsN fun _ _ _ _ _ _ us hl => match us, hl with | [_, _], _ => rfl
abbrev N_Row_need : List Str := ["self", "good"]
theorem sc_Row_need : FnScope N_Row_need ["self", "good"] (defScope s_Row_need) := ⟨rfl, rfl, rfl, by decide +kernel, rfl, by decide +kernel, by decide +kernel⟩
abbrev s_Row_size : Stmt := inClass (top 21) 2
theorem Tx.F_Row_size (T : Tx K mg) : FunD K "size" "Row.size" (defArgs s_Row_size) (defBody s_Row_size) (defScope s_Row_size) [] [] (He.fAd K ("Row", some "size")) (fdOf K ("Row", some "size")) := T.fd 9 rfl rfl rfl
theorem Tx.B_Row_size (T : Tx K mg) : Binds K (fdOf K ("Row", some "size")) ["self"] [] := T.F_Row_size.bindsN fun _ _ _ _ _ _ us hl => match us, hl with | [_], _ => rfl
abbrev N_Row_size : List Str := ["self"]
theorem sc_Row_size : FnScope N_Row_size ["self"] (defScope s_Row_size) := ⟨rfl, rfl, rfl, by decide +kernel, rfl, by decide +kernel, by decide +kernel⟩
abbrev s_Row_bits : Stmt := inClass (top 21) 3
theorem Tx.F_Row_bits (T : Tx K mg) : FunD K "bits" "Row.bits" (defArgs s_Row_bits) (defBody s_Row_bits) (defScope s_Row_bits) [] [] (He.fAd K ("Row", some "bits")) (fdOf K ("Row", some "bits")) := T.fd 10 rfl rfl rfl
theorem Tx.B_Row_bits (T : Tx K mg) : Binds K (fdOf K ("Row", some "bits")) ["self"] [] := T.F_Row_bits.bindsN fun _ _ _ _ _ _ us hl => match us, hl with | [_], _ => rfl
abbrev N_Row_bits : List Str := ["self"]
theorem sc_Row_bits : FnScope N_Row_bits ["self"] (defScope s_Row_bits) := ⟨rfl, rfl, rfl, by decide +kernel, rfl, by decide +kernel, by decide +kernel⟩
abbrev s_Row_look : Stmt := inClass (top 21) 4
theorem Tx.F_Row_look (T : Tx K mg) : FunD K "look" "Row.look" (defArgs s_Row_look) (defBody s_Row_look) (defScope s_Row_look) [] [] (He.fAd K ("Row", some "look")) (fdOf K ("Row", some "look")) := T.fd 11 rfl rfl rfl
theorem Tx.B_Row_look (T : Tx K mg) : Binds K (fdOf K ("Row", some "look")) ["self", "place"] [] := T.F_Row_look.bindsN fun _ _ _ _ _ _ us hl => match us, hl with | [_, _], _ => rfl
abbrev N_Row_look : List Str := ["self", "place"]
theorem sc_Row_look : FnScope N_Row_look ["self", "place"] (defScope s_Row_look) := ⟨rfl, rfl, rfl, by decide +kernel, rfl, by decide +kernel, by decide +kernel⟩
abbrev s_Row_bit : Stmt := inClass (top 21) 5
theorem Tx.F_Row_bit (T : Tx K mg) : FunD K "bit" "Row.bit" (defArgs s_Row_bit) (defBody s_Row_bit) (defScope s_Row_bit) [] [] (He.fAd K ("Row", some "bit")) (fdOf K ("Row", some "bit")) := T.fd 12 rfl rfl rfl
theorem Tx.B_Row_bit (T : Tx K mg) : Binds K (fdOf K ("Row", some "bit")) ["self", "place"] [] := T.F_Row_bit.bindsN fun _ _ _ _ _ _ us hl => match us, hl with | [_, _], _ => rfl
abbrev N_Row_bit : List Str := ["self", "place"]
theorem sc_Row_bit : FnScope N_Row_bit ["self", "place"] (defScope s_Row_bit) := ⟨rfl, rfl, rfl, by decide +kernel, rfl, by decide +kernel, by decide +kernel⟩
abbrev s_Row_up_to : Stmt := inClass (top 21) 6
theorem Tx.F_Row_up_to (T : Tx K mg) : FunD K "up_to" "Row.up_to" (defArgs s_Row_up_to) (defBody s_Row_up_to) (defScope s_Row_up_to) [] [] (He.fAd K ("Row", some "up_to")) (fdOf K ("Row", some "up_to")) := T.fd 13 rfl rfl rfl
theorem Tx.B_Row_up_to (T : Tx K mg) : Binds K (fdOf K ("Row", some "up_to")) ["self", "block"] [] := T.F_Row_up_to.bindsN fun _ _ _ _ _ _ us hl => match us, hl with | [_, _], _ => rfl
abbrev N_Row_up_to : List Str := ["self", "block"]
theorem sc_Row_up_to : FnScope N_Row_up_to ["self", "block"] (defScope s_Row_up_to) := ⟨rfl, rfl, rfl, by decide +kernel, rfl, by decide +kernel, by decide +kernel⟩
abbrev s_Row_ones : Stmt := inClass (top 21) 7
theorem Tx.F_Row_ones (T : Tx K mg) : FunD K "ones" "Row.ones" (defArgs s_Row_ones) (defBody s_Row_ones) (defScope s_Row_ones) [] [] (He.fAd K ("Row", some "ones")) (fdOf K ("Row", some "ones")) := T.fd 14 rfl rfl rfl
theorem Tx.B_Row_ones (T : Tx K mg) : Binds K (fdOf K ("Row", some "ones")) ["self", "place"] [] := T.F_Row_ones.bindsN fun _ _ _ _ _ _ us hl => match us, hl with | [_, _], _ => rfl
abbrev N_Row_ones : List Str := ["self", "place", "block", "at"]
theorem sc_Row_ones : FnScope N_Row_ones ["self", "place"] (defScope s_Row_ones) := ⟨rfl, rfl, rfl, by decide +kernel, rfl, by decide +kernel, by decide +kernel⟩
abbrev s_Row_noughts : Stmt := inClass (top 21) 8
theorem Tx.F_Row_noughts (T : Tx K mg) : FunD K "noughts" "Row.noughts" (defArgs s_Row_noughts) (defBody s_Row_noughts) (defScope s_Row_noughts) [] [] (He.fAd K ("Row", some "noughts")) (fdOf K ("Row", some "noughts")) := T.fd 15 rfl rfl rfl
theorem Tx.B_Row_noughts (T : Tx K mg) : Binds K (fdOf K ("Row", some "noughts")) ["self", "place"] [] := T.F_Row_noughts.bindsN fun _ _ _ _ _ _ us hl => match us, hl with | [_, _], _ => rfl
abbrev N_Row_noughts : List Str := ["self", "place"]
theorem sc_Row_noughts : FnScope N_Row_noughts ["self", "place"] (defScope s_Row_noughts) := ⟨rfl, rfl, rfl, by decide +kernel, rfl, by decide +kernel, by decide +kernel⟩
abbrev s_Row_ahead : Stmt := inClass (top 21) 9
theorem Tx.F_Row_ahead (T : Tx K mg) : FunD K "ahead" "Row.ahead" (defArgs s_Row_ahead) (defBody s_Row_ahead) (defScope s_Row_ahead) [] [] (He.fAd K ("Row", some "ahead")) (fdOf K ("Row", some "ahead")) := T.fd 16 rfl rfl rfl
theorem Tx.B_Row_ahead (T : Tx K mg) : Binds K (fdOf K ("Row", some "ahead")) ["self", "block", "sign"] [] := T.F_Row_ahead.bindsN fun _ _ _ _ _ _ us hl => match us, hl with | [_, _, _], _ => rfl
abbrev N_Row_ahead : List Str := ["self", "block", "sign"]
theorem sc_Row_ahead : FnScope N_Row_ahead ["self", "block", "sign"] (defScope s_Row_ahead) := ⟨rfl, rfl, rfl, by decide +kernel, rfl, by decide +kernel, by decide +kernel⟩
abbrev s_Row_found_at : Stmt := inClass (top 21) 10
theorem Tx.F_Row_found_at (T : Tx K mg) : FunD K "found_at" "Row.found_at" (defArgs s_Row_found_at) (defBody s_Row_found_at) (defScope s_Row_found_at) [] [] (He.fAd K ("Row", some "found_at")) (fdOf K ("Row", some "found_at")) := T.fd 17 rfl rfl rfl
theorem Tx.B_Row_found_at (T : Tx K mg) : Binds K (fdOf K ("Row", some "found_at")) ["self", "number", "sign"] [] := T.F_Row_found_at.bindsN fun _ _ _ _ _ _ us hl => match us, hl with | [_, _, _], _ => rfl
abbrev N_Row_found_at : List Str := ["self", "number", "sign", "low", "high", "middle", "left", "place"]
theorem sc_Row_found_at : FnScope N_Row_found_at ["self", "number", "sign"] (defScope s_Row_found_at) := ⟨rfl, rfl, rfl, by decide +kernel, rfl, by decide +kernel, by decide +kernel⟩
abbrev s_Row_one_at : Stmt := inClass (top 21) 11
theorem Tx.F_Row_one_at (T : Tx K mg) : FunD K "one_at" "Row.one_at" (defArgs s_Row_one_at) (defBody s_Row_one_at) (defScope s_Row_one_at) [] [] (He.fAd K ("Row", some "one_at")) (fdOf K ("Row", some "one_at")) := T.fd 18 rfl rfl rfl
theorem Tx.B_Row_one_at (T : Tx K mg) : Binds K (fdOf K ("Row", some "one_at")) ["self", "number"] [] := T.F_Row_one_at.bindsN fun _ _ _ _ _ _ us hl => match us, hl with | [_, _], _ => rfl
abbrev N_Row_one_at : List Str := ["self", "number"]
theorem sc_Row_one_at : FnScope N_Row_one_at ["self", "number"] (defScope s_Row_one_at) := ⟨rfl, rfl, rfl, by decide +kernel, rfl, by decide +kernel, by decide +kernel⟩
abbrev s_need_tree : Stmt := top 25
theorem Tx.F_need_tree (T : Tx K mg) : FunD K "need_tree" "need_tree" (defArgs s_need_tree) (defBody s_need_tree) (defScope s_need_tree) [] [] (He.fAd K ("need_tree", none)) (fdOf K ("need_tree", none)) := T.fd 19 rfl rfl rfl
theorem Tx.B_need_tree (T : Tx K mg) : Binds K (fdOf K ("need_tree", none)) ["bits"] [] := T.F_need_tree.bindsN fun _ _ _ _ _ _ us hl => match us, hl with | [_], _ => rfl
abbrev N_need_tree : List Str := ["bits", "deep", "at", "bit"]
theorem sc_need_tree : FnScope N_need_tree ["bits"] (defScope s_need_tree) := ⟨rfl, rfl, rfl, by decide +kernel, rfl, by decide +kernel, by decide +kernel⟩
abbrev s_Wood_init : Stmt := inClass (top 27) 0
theorem Tx.F_Wood_init (T : Tx K mg) : FunD K "__init__" "Wood.__init__" (defArgs s_Wood_init) (defBody s_Wood_init) (defScope s_Wood_init) [] [] (He.fAd K ("Wood", some "__init__")) (fdOf K ("Wood", some "__init__")) := T.fd 20 rfl rfl rfl
theorem Tx.B_Wood_init (T : Tx K mg) : Binds K (fdOf K ("Wood", some "__init__")) ["self", "bits"] [] := T.F_Wood_init.bindsN fun _ _ _ _ _ _ us hl => match us, hl with | [_, _], _ => rfl
abbrev N_Wood_init : List Str := ["self", "bits", "found", "deep", "block", "low", "bit"]
theorem sc_Wood_init : FnScope N_Wood_init ["self", "bits"] (defScope s_Wood_init) := ⟨rfl, rfl, rfl, by decide +kernel, rfl, by decide +kernel, by decide +kernel⟩
abbrev s_Wood_deep : Stmt := inClass (top 27) 1
theorem Tx.F_Wood_deep (T : Tx K mg) : FunD K "deep" "Wood.deep" (defArgs s_Wood_deep) (defBody s_Wood_deep) (defScope s_Wood_deep) [] [] (He.fAd K ("Wood", some "deep")) (fdOf K ("Wood", some "deep")) := T.fd 21 rfl rfl rfl
theorem Tx.B_Wood_deep (T : Tx K mg) : Binds K (fdOf K ("Wood", some "deep")) ["self", "place"] [] := T.F_Wood_deep.bindsN fun _ _ _ _ _ _ us hl => match us, hl with | [_, _], _ => rfl
abbrev N_Wood_deep : List Str := ["self", "place"]
theorem sc_Wood_deep : FnScope N_Wood_deep ["self", "place"] (defScope s_Wood_deep) := ⟨rfl, rfl, rfl, by decide +kernel, rfl, by decide +kernel, by decide +kernel⟩
abbrev s_Wood_low : Stmt := inClass (top 27) 2
theorem Tx.F_Wood_low (T : Tx K mg) : FunD K "low" "Wood.low" (defArgs s_Wood_low) (defBody s_Wood_low) (defScope s_Wood_low) [] [] (He.fAd K ("Wood", some "low")) (fdOf K ("Wood", some "low")) := T.fd 22 rfl rfl rfl
theorem Tx.B_Wood_low (T : Tx K mg) : Binds K (fdOf K ("Wood", some "low")) ["self", "block"] [] := T.F_Wood_low.bindsN fun _ _ _ _ _ _ us hl => match us, hl with | [_, _], _ => rfl
abbrev N_Wood_low : List Str := ["self", "block"]
theorem sc_Wood_low : FnScope N_Wood_low ["self", "block"] (defScope s_Wood_low) := ⟨rfl, rfl, rfl, by decide +kernel, rfl, by decide +kernel, by decide +kernel⟩
abbrev s_Wood_need : Stmt := inClass (top 27) 3
theorem Tx.F_Wood_need (T : Tx K mg) : FunD K "need" "Wood.need" (defArgs s_Wood_need) (defBody s_Wood_need) (defScope s_Wood_need) [] [] (He.fAd K ("Wood", some "need")) (fdOf K ("Wood", some "need")) := T.fd 23 rfl rfl rfl
theorem Tx.B_Wood_need (T : Tx K mg) : Binds K (fdOf K ("Wood", some "need")) ["self", "good"] [] := T.F_Wood_need.bindsN fun _ _ _ _ _ _ us hl => match us, hl with | [_, _], _ => rfl
abbrev N_Wood_need : List Str := ["self", "good"]
theorem sc_Wood_need : FnScope N_Wood_need ["self", "good"] (defScope s_Wood_need) := ⟨rfl, rfl, rfl, by decide +kernel, rfl, by decide +kernel, by decide +kernel⟩
abbrev s_Wood_need_node : Stmt := inClass (top 27) 4
theorem Tx.F_Wood_need_node (T : Tx K mg) : FunD K "need_node" "Wood.need_node" (defArgs s_Wood_need_node) (defBody s_Wood_need_node) (defScope s_Wood_need_node) [] [] (He.fAd K ("Wood", some "need_node")) (fdOf K ("Wood", some "need_node")) := T.fd 24 rfl rfl rfl
theorem Tx.B_Wood_need_node (T : Tx K mg) : Binds K (fdOf K ("Wood", some "need_node")) ["self", "node"] [] := T.F_Wood_need_node.bindsN fun _ _ _ _ _ _ us hl => match us, hl with | [_, _], _ => rfl
abbrev N_Wood_need_node : List Str := ["self", "node"]
theorem sc_Wood_need_node : FnScope N_Wood_need_node ["self", "node"] (defScope s_Wood_need_node) := ⟨rfl, rfl, rfl, by decide +kernel, rfl, by decide +kernel, by decide +kernel⟩
abbrev s_Wood_first_down : Stmt := inClass (top 27) 5
theorem Tx.F_Wood_first_down (T : Tx K mg) : FunD K "first_down" "Wood.first_down" (defArgs s_Wood_first_down) (defBody s_Wood_first_down) (defScope s_Wood_first_down) [] [] (He.fAd K ("Wood", some "first_down")) (fdOf K ("Wood", some "first_down")) := T.fd 25 rfl rfl rfl
theorem Tx.B_Wood_first_down (T : Tx K mg) : Binds K (fdOf K ("Wood", some "first_down")) ["self", "place", "deep"] [] := T.F_Wood_first_down.bindsN fun _ _ _ _ _ _ us hl => match us, hl with | [_, _, _], _ => rfl
abbrev N_Wood_first_down : List Str := ["self", "place", "deep", "here", "low"]
theorem sc_Wood_first_down : FnScope N_Wood_first_down ["self", "place", "deep"] (defScope s_Wood_first_down) := ⟨rfl, rfl, rfl, by decide +kernel, rfl, by decide +kernel, by decide +kernel⟩
abbrev s_Wood_last_at : Stmt := inClass (top 27) 6
theorem Tx.F_Wood_last_at (T : Tx K mg) : FunD K "last_at" "Wood.last_at" (defArgs s_Wood_last_at) (defBody s_Wood_last_at) (defScope s_Wood_last_at) [] [] (He.fAd K ("Wood", some "last_at")) (fdOf K ("Wood", some "last_at")) := T.fd 26 rfl rfl rfl
theorem Tx.B_Wood_last_at (T : Tx K mg) : Binds K (fdOf K ("Wood", some "last_at")) ["self", "place", "deep"] [] := T.F_Wood_last_at.bindsN fun _ _ _ _ _ _ us hl => match us, hl with | [_, _, _], _ => rfl
abbrev N_Wood_last_at : List Str := ["self", "place", "deep", "here"]
theorem sc_Wood_last_at : FnScope N_Wood_last_at ["self", "place", "deep"] (defScope s_Wood_last_at) := ⟨rfl, rfl, rfl, by decide +kernel, rfl, by decide +kernel, by decide +kernel⟩
abbrev s_Wood_size : Stmt := inClass (top 27) 7
theorem Tx.F_Wood_size (T : Tx K mg) : FunD K "size" "Wood.size" (defArgs s_Wood_size) (defBody s_Wood_size) (defScope s_Wood_size) [] [] (He.fAd K ("Wood", some "size")) (fdOf K ("Wood", some "size")) := T.fd 27 rfl rfl rfl
theorem Tx.B_Wood_size (T : Tx K mg) : Binds K (fdOf K ("Wood", some "size")) ["self"] [] := T.F_Wood_size.bindsN fun _ _ _ _ _ _ us hl => match us, hl with | [_], _ => rfl
abbrev N_Wood_size : List Str := ["self"]
theorem sc_Wood_size : FnScope N_Wood_size ["self"] (defScope s_Wood_size) := ⟨rfl, rfl, rfl, by decide +kernel, rfl, by decide +kernel, by decide +kernel⟩
abbrev s_Wood_node : Stmt := inClass (top 27) 8
theorem Tx.F_Wood_node (T : Tx K mg) : FunD K "node" "Wood.node" (defArgs s_Wood_node) (defBody s_Wood_node) (defScope s_Wood_node) [] [] (He.fAd K ("Wood", some "node")) (fdOf K ("Wood", some "node")) := T.fd 28 rfl rfl rfl
theorem Tx.B_Wood_node (T : Tx K mg) : Binds K (fdOf K ("Wood", some "node")) ["self", "number"] [] := T.F_Wood_node.bindsN fun _ _ _ _ _ _ us hl => match us, hl with | [_, _], _ => rfl
abbrev N_Wood_node : List Str := ["self", "number"]
theorem sc_Wood_node : FnScope N_Wood_node ["self", "number"] (defScope s_Wood_node) := ⟨rfl, rfl, rfl, by decide +kernel, rfl, by decide +kernel, by decide +kernel⟩
abbrev s_Wood_number : Stmt := inClass (top 27) 9
theorem Tx.F_Wood_number (T : Tx K mg) : FunD K "number" "Wood.number" (defArgs s_Wood_number) (defBody s_Wood_number) (defScope s_Wood_number) [] [] (He.fAd K ("Wood", some "number")) (fdOf K ("Wood", some "number")) := T.fd 29 rfl rfl rfl
theorem Tx.B_Wood_number (T : Tx K mg) : Binds K (fdOf K ("Wood", some "number")) ["self", "node"] [] := T.F_Wood_number.bindsN fun _ _ _ _ _ _ us hl => match us, hl with | [_, _], _ => rfl
abbrev N_Wood_number : List Str := ["self", "node"]
theorem sc_Wood_number : FnScope N_Wood_number ["self", "node"] (defScope s_Wood_number) := ⟨rfl, rfl, rfl, by decide +kernel, rfl, by decide +kernel, by decide +kernel⟩
abbrev s_Wood_end : Stmt := inClass (top 27) 10
theorem Tx.F_Wood_end (T : Tx K mg) : FunD K "end" "Wood.end" (defArgs s_Wood_end) (defBody s_Wood_end) (defScope s_Wood_end) [] [] (He.fAd K ("Wood", some "end")) (fdOf K ("Wood", some "end")) := T.fd 30 rfl rfl rfl
theorem Tx.B_Wood_end (T : Tx K mg) : Binds K (fdOf K ("Wood", some "end")) ["self", "node"] [] := T.F_Wood_end.bindsN fun _ _ _ _ _ _ us hl => match us, hl with | [_, _], _ => rfl
abbrev N_Wood_end : List Str := ["self", "node"]
theorem sc_Wood_end : FnScope N_Wood_end ["self", "node"] (defScope s_Wood_end) := ⟨rfl, rfl, rfl, by decide +kernel, rfl, by decide +kernel, by decide +kernel⟩
abbrev s_Wood_number_behind : Stmt := inClass (top 27) 11
theorem Tx.F_Wood_number_behind (T : Tx K mg) : FunD K "number_behind" "Wood.number_behind" (defArgs s_Wood_number_behind) (defBody s_Wood_number_behind) (defScope s_Wood_number_behind) [] [] (He.fAd K ("Wood", some "number_behind")) (fdOf K ("Wood", some "number_behind")) := T.fd 31 rfl rfl rfl
theorem Tx.B_Wood_number_behind (T : Tx K mg) : Binds K (fdOf K ("Wood", some "number_behind")) ["self", "node"] [] := T.F_Wood_number_behind.bindsN fun _ _ _ _ _ _ us hl => match us, hl with | [_, _], _ => rfl
abbrev N_Wood_number_behind : List Str := ["self", "node"]
theorem sc_Wood_number_behind : FnScope N_Wood_number_behind ["self", "node"] (defScope s_Wood_number_behind) := ⟨rfl, rfl, rfl, by decide +kernel, rfl, by decide +kernel, by decide +kernel⟩
abbrev s_Wood_depth : Stmt := inClass (top 27) 12
theorem Tx.F_Wood_depth (T : Tx K mg) : FunD K "depth" "Wood.depth" (defArgs s_Wood_depth) (defBody s_Wood_depth) (defScope s_Wood_depth) [] [] (He.fAd K ("Wood", some "depth")) (fdOf K ("Wood", some "depth")) := T.fd 32 rfl rfl rfl
theorem Tx.B_Wood_depth (T : Tx K mg) : Binds K (fdOf K ("Wood", some "depth")) ["self", "node"] [] := T.F_Wood_depth.bindsN fun _ _ _ _ _ _ us hl => match us, hl with | [_, _], _ => rfl
abbrev N_Wood_depth : List Str := ["self", "node"]
theorem sc_Wood_depth : FnScope N_Wood_depth ["self", "node"] (defScope s_Wood_depth) := ⟨rfl, rfl, rfl, by decide +kernel, rfl, by decide +kernel, by decide +kernel⟩
abbrev s_Wood_many : Stmt := inClass (top 27) 13
theorem Tx.F_Wood_many (T : Tx K mg) : FunD K "many" "Wood.many" (defArgs s_Wood_many) (defBody s_Wood_many) (defScope s_Wood_many) [] [] (He.fAd K ("Wood", some "many")) (fdOf K ("Wood", some "many")) := T.fd 33 rfl rfl rfl
theorem Tx.B_Wood_many (T : Tx K mg) : Binds K (fdOf K ("Wood", some "many")) ["self", "node"] [] := T.F_Wood_many.bindsN fun _ _ _ _ _ _ us hl => match us, hl with | [_, _], _ => rfl
abbrev N_Wood_many : List Str := ["self", "node"]
theorem sc_Wood_many : FnScope N_Wood_many ["self", "node"] (defScope s_Wood_many) := ⟨rfl, rfl, rfl, by decide +kernel, rfl, by decide +kernel, by decide +kernel⟩
abbrev s_Wood_own_nodes : Stmt := inClass (top 27) 14
theorem Tx.F_Wood_own_nodes (T : Tx K mg) : FunD K "own_nodes" "Wood.own_nodes" (defArgs s_Wood_own_nodes) (defBody s_Wood_own_nodes) (defScope s_Wood_own_nodes) [] [] (He.fAd K ("Wood", some "own_nodes")) (fdOf K ("Wood", some "own_nodes")) := T.fd 34 rfl rfl rfl
theorem Tx.B_Wood_own_nodes (T : Tx K mg) : Binds K (fdOf K ("Wood", some "own_nodes")) ["self", "node"] [] := T.F_Wood_own_nodes.bindsN fun _ _ _ _ _ _ us hl => match us, hl with | [_, _], _ => rfl
abbrev N_Wood_own_nodes : List Str := ["self", "node", "first", "number"]
theorem sc_Wood_own_nodes : FnScope N_Wood_own_nodes ["self", "node"] (defScope s_Wood_own_nodes) := ⟨rfl, rfl, rfl, by decide +kernel, rfl, by decide +kernel, by decide +kernel⟩
abbrev s_Wood_leaves : Stmt := inClass (top 27) 15
theorem Tx.F_Wood_leaves (T : Tx K mg) : FunD K "leaves" "Wood.leaves" (defArgs s_Wood_leaves) (defBody s_Wood_leaves) (defScope s_Wood_leaves) [] [] (He.fAd K ("Wood", some "leaves")) (fdOf K ("Wood", some "leaves")) := T.fd 35 rfl rfl rfl
theorem Tx.B_Wood_leaves (T : Tx K mg) : Binds K (fdOf K ("Wood", some "leaves")) ["self", "node"] [] := T.F_Wood_leaves.bindsN fun _ _ _ _ _ _ us hl => match us, hl with | [_, _], _ => rfl
abbrev N_Wood_leaves : List Str := ["self", "node", "one"]
theorem sc_Wood_leaves : FnScope N_Wood_leaves ["self", "node"] (defScope s_Wood_leaves) := ⟨rfl, rfl, rfl, by decide +kernel, rfl, by decide +kernel, by decide +kernel⟩
abbrev s_Wood_height : Stmt := inClass (top 27) 16
theorem Tx.F_Wood_height (T : Tx K mg) : FunD K "height" "Wood.height" (defArgs s_Wood_height) (defBody s_Wood_height) (defScope s_Wood_height) [] [] (He.fAd K ("Wood", some "height")) (fdOf K ("Wood", some "height")) := T.fd 36 rfl rfl rfl
theorem Tx.B_Wood_height (T : Tx K mg) : Binds K (fdOf K ("Wood", some "height")) ["self", "node"] [] := T.F_Wood_height.bindsN fun _ _ _ _ _ _ us hl => match us, hl with | [_, _], _ => rfl
abbrev N_Wood_height : List Str := ["self", "node"]
theorem sc_Wood_height : FnScope N_Wood_height ["self", "node"] (defScope s_Wood_height) := ⟨rfl, rfl, rfl, by decide +kernel, rfl, by decide +kernel, by decide +kernel⟩
abbrev s_Wood_deepest : Stmt := inClass (top 27) 17
theorem Tx.F_Wood_deepest (T : Tx K mg) : FunD K "deepest" "Wood.deepest" (defArgs s_Wood_deepest) (defBody s_Wood_deepest) (defScope s_Wood_deepest) [] [] (He.fAd K ("Wood", some "deepest")) (fdOf K ("Wood", some "deepest")) := T.fd 37 rfl rfl rfl
theorem Tx.B_Wood_deepest (T : Tx K mg) : Binds K (fdOf K ("Wood", some "deepest")) ["self", "node"] [] := T.F_Wood_deepest.bindsN fun _ _ _ _ _ _ us hl => match us, hl with | [_, _], _ => rfl
abbrev N_Wood_deepest : List Str := ["self", "node", "found", "one"]
theorem sc_Wood_deepest : FnScope N_Wood_deepest ["self", "node"] (defScope s_Wood_deepest) := ⟨rfl, rfl, rfl, by decide +kernel, rfl, by decide +kernel, by decide +kernel⟩
abbrev s_Wood_above : Stmt := inClass (top 27) 18
theorem Tx.F_Wood_above (T : Tx K mg) : FunD K "above" "Wood.above" (defArgs s_Wood_above) (defBody s_Wood_above) (defScope s_Wood_above) [] [] (He.fAd K ("Wood", some "above")) (fdOf K ("Wood", some "above")) := T.fd 38 rfl rfl rfl
theorem Tx.B_Wood_above (T : Tx K mg) : Binds K (fdOf K ("Wood", some "above")) ["self", "node", "steps"] [] := T.F_Wood_above.bindsN fun _ _ _ _ _ _ us hl => match us, hl with | [_, _, _], _ => rfl
abbrev N_Wood_above : List Str := ["self", "node", "steps"]
theorem sc_Wood_above : FnScope N_Wood_above ["self", "node", "steps"] (defScope s_Wood_above) := ⟨rfl, rfl, rfl, by decide +kernel, rfl, by decide +kernel, by decide +kernel⟩
abbrev s_Wood_parent : Stmt := inClass (top 27) 19
theorem Tx.F_Wood_parent (T : Tx K mg) : FunD K "parent" "Wood.parent" (defArgs s_Wood_parent) (defBody s_Wood_parent) (defScope s_Wood_parent) [] [] (He.fAd K ("Wood", some "parent")) (fdOf K ("Wood", some "parent")) := T.fd 39 rfl rfl rfl
theorem Tx.B_Wood_parent (T : Tx K mg) : Binds K (fdOf K ("Wood", some "parent")) ["self", "node"] [] := T.F_Wood_parent.bindsN fun _ _ _ _ _ _ us hl => match us, hl with | [_, _], _ => rfl
abbrev N_Wood_parent : List Str := ["self", "node"]
theorem sc_Wood_parent : FnScope N_Wood_parent ["self", "node"] (defScope s_Wood_parent) := ⟨rfl, rfl, rfl, by decide +kernel, rfl, by decide +kernel, by decide +kernel⟩
abbrev s_Wood_next_child : Stmt := inClass (top 27) 20
theorem Tx.F_Wood_next_child (T : Tx K mg) : FunD K "next_child" "Wood.next_child" (defArgs s_Wood_next_child) (defBody s_Wood_next_child) (defScope s_Wood_next_child) [] [] (He.fAd K ("Wood", some "next_child")) (fdOf K ("Wood", some "next_child")) := T.fd 40 rfl rfl rfl
theorem Tx.B_Wood_next_child (T : Tx K mg) : Binds K (fdOf K ("Wood", some "next_child")) ["self", "node"] [] := T.F_Wood_next_child.bindsN fun _ _ _ _ _ _ us hl => match us, hl with | [_, _], _ => rfl
abbrev N_Wood_next_child : List Str := ["self", "node", "place"]
theorem sc_Wood_next_child : FnScope N_Wood_next_child ["self", "node"] (defScope s_Wood_next_child) := ⟨rfl, rfl, rfl, by decide +kernel, rfl, by decide +kernel, by decide +kernel⟩
abbrev s_Wood_children : Stmt := inClass (top 27) 21
theorem Tx.F_Wood_children (T : Tx K mg) : FunD K "children" "Wood.children" (defArgs s_Wood_children) (defBody s_Wood_children) (defScope s_Wood_children) [] [] (He.fAd K ("Wood", some "children")) (fdOf K ("Wood", some "children")) := T.fd 41 rfl rfl rfl
theorem Tx.B_Wood_children (T : Tx K mg) : Binds K (fdOf K ("Wood", some "children")) ["self", "node"] [] := T.F_Wood_children.bindsN fun _ _ _ _ _ _ us hl => match us, hl with | [_, _], _ => rfl
abbrev N_Wood_children : List Str := ["self", "node", "found", "one"]
theorem sc_Wood_children : FnScope N_Wood_children ["self", "node"] (defScope s_Wood_children) := ⟨rfl, rfl, rfl, by decide +kernel, rfl, by decide +kernel, by decide +kernel⟩
abbrev s_Wood_degree : Stmt := inClass (top 27) 22
theorem Tx.F_Wood_degree (T : Tx K mg) : FunD K "degree" "Wood.degree" (defArgs s_Wood_degree) (defBody s_Wood_degree) (defScope s_Wood_degree) [] [] (He.fAd K ("Wood", some "degree")) (fdOf K ("Wood", some "degree")) := T.fd 42 rfl rfl rfl
theorem Tx.B_Wood_degree (T : Tx K mg) : Binds K (fdOf K ("Wood", some "degree")) ["self", "node"] [] := T.F_Wood_degree.bindsN fun _ _ _ _ _ _ us hl => match us, hl with | [_, _], _ => rfl
abbrev N_Wood_degree : List Str := ["self", "node"]
theorem sc_Wood_degree : FnScope N_Wood_degree ["self", "node"] (defScope s_Wood_degree) := ⟨rfl, rfl, rfl, by decide +kernel, rfl, by decide +kernel, by decide +kernel⟩
abbrev s_Wood_child : Stmt := inClass (top 27) 23
theorem Tx.F_Wood_child (T : Tx K mg) : FunD K "child" "Wood.child" (defArgs s_Wood_child) (defBody s_Wood_child) (defScope s_Wood_child) [] [] (He.fAd K ("Wood", some "child")) (fdOf K ("Wood", some "child")) := T.fd 43 rfl rfl rfl
theorem Tx.B_Wood_child (T : Tx K mg) : Binds K (fdOf K ("Wood", some "child")) ["self", "node", "number"] [] := T.F_Wood_child.bindsN fun _ _ _ _ _ _ us hl => match us, hl with | [_, _, _], _ => rfl
abbrev N_Wood_child : List Str := ["self", "node", "number", "found"]
theorem sc_Wood_child : FnScope N_Wood_child ["self", "node", "number"] (defScope s_Wood_child) := ⟨rfl, rfl, rfl, by decide +kernel, rfl, by decide +kernel, by decide +kernel⟩
abbrev s_Wood_which : Stmt := inClass (top 27) 24
theorem Tx.F_Wood_which (T : Tx K mg) : FunD K "which" "Wood.which" (defArgs s_Wood_which) (defBody s_Wood_which) (defScope s_Wood_which) [] [] (He.fAd K ("Wood", some "which")) (fdOf K ("Wood", some "which")) := T.fd 44 rfl rfl rfl
theorem Tx.B_Wood_which (T : Tx K mg) : Binds K (fdOf K ("Wood", some "which")) ["self", "node"] [] := T.F_Wood_which.bindsN fun _ _ _ _ _ _ us hl => match us, hl with | [_, _], _ => rfl
abbrev N_Wood_which : List Str := ["self", "node", "one"]
theorem sc_Wood_which : FnScope N_Wood_which ["self", "node"] (defScope s_Wood_which) := ⟨rfl, rfl, rfl, by decide +kernel, rfl, by decide +kernel, by decide +kernel⟩
abbrev s_Wood_last_child : Stmt := inClass (top 27) 25
theorem Tx.F_Wood_last_child (T : Tx K mg) : FunD K "last_child" "Wood.last_child" (defArgs s_Wood_last_child) (defBody s_Wood_last_child) (defScope s_Wood_last_child) [] [] (He.fAd K ("Wood", some "last_child")) (fdOf K ("Wood", some "last_child")) := T.fd 45 rfl rfl rfl
theorem Tx.B_Wood_last_child (T : Tx K mg) : Binds K (fdOf K ("Wood", some "last_child")) ["self", "node"] [] := T.F_Wood_last_child.bindsN fun _ _ _ _ _ _ us hl => match us, hl with | [_, _], _ => rfl
abbrev N_Wood_last_child : List Str := ["self", "node", "number"]
theorem sc_Wood_last_child : FnScope N_Wood_last_child ["self", "node"] (defScope s_Wood_last_child) := ⟨rfl, rfl, rfl, by decide +kernel, rfl, by decide +kernel, by decide +kernel⟩
abbrev s_Wood_is_above : Stmt := inClass (top 27) 26
theorem Tx.F_Wood_is_above (T : Tx K mg) : FunD K "is_above" "Wood.is_above" (defArgs s_Wood_is_above) (defBody s_Wood_is_above) (defScope s_Wood_is_above) [] [] (He.fAd K ("Wood", some "is_above")) (fdOf K ("Wood", some "is_above")) := T.fd 46 rfl rfl rfl
theorem Tx.B_Wood_is_above (T : Tx K mg) : Binds K (fdOf K ("Wood", some "is_above")) ["self", "one", "other"] [] := T.F_Wood_is_above.bindsN fun _ _ _ _ _ _ us hl => match us, hl with | [_, _, _], _ => rfl
abbrev N_Wood_is_above : List Str := ["self", "one", "other"]
theorem sc_Wood_is_above : FnScope N_Wood_is_above ["self", "one", "other"] (defScope s_Wood_is_above) := ⟨rfl, rfl, rfl, by decide +kernel, rfl, by decide +kernel, by decide +kernel⟩
abbrev s_Wood_above_both : Stmt := inClass (top 27) 27
theorem Tx.F_Wood_above_both (T : Tx K mg) : FunD K "above_both" "Wood.above_both" (defArgs s_Wood_above_both) (defBody s_Wood_above_both) (defScope s_Wood_above_both) [] [] (He.fAd K ("Wood", some "above_both")) (fdOf K ("Wood", some "above_both")) := T.fd 47 rfl rfl rfl
theorem Tx.B_Wood_above_both (T : Tx K mg) : Binds K (fdOf K ("Wood", some "above_both")) ["self", "one", "other"] [] := T.F_Wood_above_both.bindsN fun _ _ _ _ _ _ us hl => match us, hl with | [_, _, _], _ => rfl
abbrev N_Wood_above_both : List Str := ["self", "one", "other", "found"]
theorem sc_Wood_above_both : FnScope N_Wood_above_both ["self", "one", "other"] (defScope s_Wood_above_both) := ⟨rfl, rfl, rfl, by decide +kernel, rfl, by decide +kernel, by decide +kernel⟩
abbrev s_Wood_level_next : Stmt := inClass (top 27) 28
theorem Tx.F_Wood_level_next (T : Tx K mg) : FunD K "level_next" "Wood.level_next" (defArgs s_Wood_level_next) (defBody s_Wood_level_next) (defScope s_Wood_level_next) [] [] (He.fAd K ("Wood", some "level_next")) (fdOf K ("Wood", some "level_next")) := T.fd 48 rfl rfl rfl
theorem Tx.B_Wood_level_next (T : Tx K mg) : Binds K (fdOf K ("Wood", some "level_next")) ["self", "node"] [] := T.F_Wood_level_next.bindsN fun _ _ _ _ _ _ us hl => match us, hl with | [_, _], _ => rfl
abbrev N_Wood_level_next : List Str := ["self", "node", "deep", "number", "place"]
theorem sc_Wood_level_next : FnScope N_Wood_level_next ["self", "node"] (defScope s_Wood_level_next) := ⟨rfl, rfl, rfl, by decide +kernel, rfl, by decide +kernel, by decide +kernel⟩
abbrev s__law_cell : Stmt := top 29
theorem Tx.F__law_cell (T : Tx K mg) : FunD K "_law_cell" "_law_cell" (defArgs s__law_cell) (defBody s__law_cell) (defScope s__law_cell) [] [] (He.fAd K ("_law_cell", none)) (fdOf K ("_law_cell", none)) := T.fd 49 rfl rfl rfl
theorem Tx.B__law_cell (T : Tx K mg) : Binds K (fdOf K ("_law_cell", none)) ["_law_script", "_law_k"] [] := T.F__law_cell.bindsN fun _ _ _ _ _ _ us hl => match us, hl with | [_, _], _ => rfl
abbrev N__law_cell : List Str := ["_law_script", "_law_k"]
theorem sc__law_cell : FnScope N__law_cell ["_law_script", "_law_k"] (defScope s__law_cell) := ⟨rfl, rfl, rfl, by decide +kernel, rfl, by decide +kernel, by decide +kernel⟩
abbrev s__law_drawn : Stmt := top 30
theorem Tx.F__law_drawn (T : Tx K mg) : FunD K "_law_drawn" "_law_drawn" (defArgs s__law_drawn) (defBody s__law_drawn) (defScope s__law_drawn) [] [] (He.fAd K ("_law_drawn", none)) (fdOf K ("_law_drawn", none)) := T.fd 50 rfl rfl rfl
theorem Tx.B__law_drawn (T : Tx K mg) : Binds K (fdOf K ("_law_drawn", none)) ["_law_cell_here", "_law_k"] [] := T.F__law_drawn.bindsN fun _ _ _ _ _ _ us hl => match us, hl with | [_, _], _ => rfl
abbrev N__law_drawn : List Str := ["_law_cell_here", "_law_k", "_law_more"]
theorem sc__law_drawn : FnScope N__law_drawn ["_law_cell_here", "_law_k"] (defScope s__law_drawn) := ⟨rfl, rfl, rfl, by decide +kernel, rfl, by decide +kernel, by decide +kernel⟩
abbrev s__law_word : Stmt := top 31
theorem Tx.F__law_word (T : Tx K mg) : FunD K "_law_word" "_law_word" (defArgs s__law_word) (defBody s__law_word) (defScope s__law_word) [] [] (He.fAd K ("_law_word", none)) (fdOf K ("_law_word", none)) := T.fd 51 rfl rfl rfl
theorem Tx.B__law_word (T : Tx K mg) : Binds K (fdOf K ("_law_word", none)) ["_law_e"] [] := T.F__law_word.bindsN fun _ _ _ _ _ _ us hl => match us, hl with | [_], _ => rfl
abbrev N__law_word : List Str := ["_law_e", "_law_flags", "_law_flag"]
theorem sc__law_word : FnScope N__law_word ["_law_e"] (defScope s__law_word) := ⟨rfl, rfl, rfl, by decide +kernel, rfl, by decide +kernel, by decide +kernel⟩
abbrev s__law_told : Stmt := top 32
theorem Tx.F__law_told (T : Tx K mg) : FunD K "_law_told" "_law_told" (defArgs s__law_told) (defBody s__law_told) (defScope s__law_told) [] [] (He.fAd K ("_law_told", none)) (fdOf K ("_law_told", none)) := T.fd 52 rfl rfl rfl
theorem Tx.B__law_told (T : Tx K mg) : Binds K (fdOf K ("_law_told", none)) ["_law_deed"] [] := T.F__law_told.bindsN fun _ _ _ _ _ _ us hl => match us, hl with | [_], _ => rfl
abbrev N__law_told : List Str := ["_law_deed", "_law_e"]
theorem sc__law_told : FnScope N__law_told ["_law_deed"] (defScope s__law_told) := ⟨rfl, rfl, rfl, by decide +kernel, rfl, by decide +kernel, by decide +kernel⟩
abbrev s__law_tree : Stmt := top 33
theorem Tx.F__law_tree (T : Tx K mg) : FunD K "_law_tree" "_law_tree" (defArgs s__law_tree) (defBody s__law_tree) (defScope s__law_tree) [] [] (He.fAd K ("_law_tree", none)) (fdOf K ("_law_tree", none)) := T.fd 53 rfl rfl rfl
theorem Tx.B__law_tree (T : Tx K mg) : Binds K (fdOf K ("_law_tree", none)) ["_law_more", "_law_many"] [] := T.F__law_tree.bindsN fun _ _ _ _ _ _ us hl => match us, hl with | [_, _], _ => rfl
abbrev N__law_tree : List Str := ["_law_more", "_law_many", "_law_rows", "_law_nodes", "_law_ways", "_law_j", "_law_here", "_law_at", "_law_fresh"]
theorem sc__law_tree : FnScope N__law_tree ["_law_more", "_law_many"] (defScope s__law_tree) := ⟨rfl, rfl, rfl, by decide +kernel, rfl, by decide +kernel, by decide +kernel⟩
abbrev s__law_bits_of : Stmt := top 34
theorem Tx.F__law_bits_of (T : Tx K mg) : FunD K "_law_bits_of" "_law_bits_of" (defArgs s__law_bits_of) (defBody s__law_bits_of) (defScope s__law_bits_of) [] [] (He.fAd K ("_law_bits_of", none)) (fdOf K ("_law_bits_of", none)) := T.fd 54 rfl rfl rfl
theorem Tx.B__law_bits_of (T : Tx K mg) : Binds K (fdOf K ("_law_bits_of", none)) ["_law_tree_here"] [] := T.F__law_bits_of.bindsN fun _ _ _ _ _ _ us hl => match us, hl with | [_], _ => rfl
abbrev N__law_bits_of : List Str := ["_law_tree_here", "_law_found", "_law_child"]
theorem sc__law_bits_of : FnScope N__law_bits_of ["_law_tree_here"] (defScope s__law_bits_of) := ⟨rfl, rfl, rfl, by decide +kernel, rfl, by decide +kernel, by decide +kernel⟩
abbrev s__law_deeds : Stmt := top 35
theorem Tx.F__law_deeds (T : Tx K mg) : FunD K "_law_deeds" "_law_deeds" (defArgs s__law_deeds) (defBody s__law_deeds) (defScope s__law_deeds) [] [] (He.fAd K ("_law_deeds", none)) (fdOf K ("_law_deeds", none)) := T.fd 55 rfl rfl rfl
theorem Tx.B__law_deeds (T : Tx K mg) : Binds K (fdOf K ("_law_deeds", none)) ["_law_wood", "_law_odd", "_law_node"] [] := T.F__law_deeds.bindsN fun _ _ _ _ _ _ us hl => match us, hl with | [_, _, _], _ => rfl
abbrev N__law_deeds : List Str := ["_law_wood", "_law_odd", "_law_node", "_law_found"]
theorem sc__law_deeds : FnScope N__law_deeds ["_law_wood", "_law_odd", "_law_node"] (defScope s__law_deeds) := ⟨rfl, rfl, rfl, by decide +kernel, rfl, by decide +kernel, by decide +kernel⟩
abbrev s_law : Stmt := top 36
theorem Tx.F_law (T : Tx K mg) : FunD K "law" "law" (defArgs s_law) (defBody s_law) (defScope s_law) [] [] (He.fAd K ("law", none)) (fdOf K ("law", none)) := T.fd 56 rfl rfl rfl
theorem Tx.B_law (T : Tx K mg) : Binds K (fdOf K ("law", none)) ["_law_script"] [] := T.F_law.bindsN fun _ _ _ _ _ _ us hl => match us, hl with | [_], _ => rfl
abbrev N_law : List Str := ["_law_script", "_law_k", "_law_more", "_law_many", "_law_bits", "_law_wood", "_law_noughts", "_law_at", "_law_ones", "_law_node", "_law_odd", "_law_some", "_law_told_here", "_law_j"]
theorem sc_law : FnScope N_law ["_law_script"] (defScope s_law) := ⟨rfl, rfl, rfl, by decide +kernel, rfl, by decide +kernel, by decide +kernel⟩
theorem Tx.g_needs (T : Tx K mg) : mg "needs" = some (.ref (He.ga K "needs")) := T.glo 0 rfl
theorem Tx.g_in_bits (T : Tx K mg) : mg "in_bits" = some (.ref (He.ga K "in_bits")) := T.glo 1 rfl
theorem Tx.g_out_of (T : Tx K mg) : mg "out_of" = some (.ref (He.ga K "out_of")) := T.glo 2 rfl
theorem Tx.g_need_bits (T : Tx K mg) : mg "need_bits" = some (.ref (He.ga K "need_bits")) := T.glo 3 rfl
theorem Tx.g_pack (T : Tx K mg) : mg "pack" = some (.ref (He.ga K "pack")) := T.glo 4 rfl
theorem Tx.g_need_packed (T : Tx K mg) : mg "need_packed" = some (.ref (He.ga K "need_packed")) := T.glo 5 rfl
theorem Tx.g_number_at (T : Tx K mg) : mg "number_at" = some (.ref (He.ga K "number_at")) := T.glo 6 rfl
theorem Tx.g_need_tree (T : Tx K mg) : mg "need_tree" = some (.ref (He.ga K "need_tree")) := T.glo 7 rfl
theorem Tx.g__law_cell (T : Tx K mg) : mg "_law_cell" = some (.ref (He.ga K "_law_cell")) := T.glo 8 rfl
theorem Tx.g__law_drawn (T : Tx K mg) : mg "_law_drawn" = some (.ref (He.ga K "_law_drawn")) := T.glo 9 rfl
theorem Tx.g__law_word (T : Tx K mg) : mg "_law_word" = some (.ref (He.ga K "_law_word")) := T.glo 10 rfl
theorem Tx.g__law_told (T : Tx K mg) : mg "_law_told" = some (.ref (He.ga K "_law_told")) := T.glo 11 rfl
theorem Tx.g__law_tree (T : Tx K mg) : mg "_law_tree" = some (.ref (He.ga K "_law_tree")) := T.glo 12 rfl
theorem Tx.g__law_bits_of (T : Tx K mg) : mg "_law_bits_of" = some (.ref (He.ga K "_law_bits_of")) := T.glo 13 rfl
theorem Tx.g__law_deeds (T : Tx K mg) : mg "_law_deeds" = some (.ref (He.ga K "_law_deeds")) := T.glo 14 rfl
theorem Tx.g_law (T : Tx K mg) : mg "law" = some (.ref (He.ga K "law")) := T.glo 15 rfl
theorem Tx.z_range (T : Tx K mg) : mg "range" = none := T.free 16 rfl
theorem Tx.z_str (T : Tx K mg) : mg "str" = none := T.free 17 rfl
theorem Tx.z_int (T : Tx K mg) : mg "int" = none := T.free 18 rfl
theorem Tx.z_all (T : Tx K mg) : mg "all" = none := T.free 19 rfl
theorem Tx.z_len (T : Tx K mg) : mg "len" = none := T.free 20 rfl
theorem Tx.z_sum (T : Tx K mg) : mg "sum" = none := T.free 21 rfl
theorem Tx.z_min (T : Tx K mg) : mg "min" = none := T.free 22 rfl
theorem Tx.z_enumerate (T : Tx K mg) : mg "enumerate" = none := T.free 23 rfl
theorem Tx.z_isinstance (T : Tx K mg) : mg "isinstance" = none := T.free 24 rfl
theorem Tx.z_ValueError (T : Tx K mg) : mg "ValueError" = none := T.free 25 rfl
theorem Tx.z_max (T : Tx K mg) : mg "max" = none := T.free 26 rfl
theorem Tx.c_BLOCK (T : Tx K mg) : ∃ t, mg "BLOCK" = some (.int 32 t) := T.int 27 rfl
theorem Tx.c_MOST (T : Tx K mg) : ∃ t, mg "MOST" = some (.int 4096 t) := T.int 28 rfl
theorem Tx.c_MOST_NODES (T : Tx K mg) : ∃ t, mg "MOST_NODES" = some (.int 1000 t) := T.int 29 rfl
theorem Tx.c_MOST_DEEP (T : Tx K mg) : ∃ t, mg "MOST_DEEP" = some (.int 200 t) := T.int 30 rfl
theorem Tx.g_TerseError (T : Tx K mg) : mg "TerseError" = some (.ref (He.ga K "TerseError")) := T.glo 31 rfl
theorem Tx.x_TerseError (T : Tx K mg) : ExcF K mg "TerseError" := ⟨T.glo 31 rfl, He.exc_ok (T.fct 32 rfl)⟩
theorem Tx.m_TerseError (T : Tx K mg) : PySem.W.exmOne K (.ref (He.ga K "TerseError")) (.ref (He.ga K "TerseError")) = some true := He.exm_ok (T.fct 33 rfl)
theorem Tx.g_BadNumber (T : Tx K mg) : mg "BadNumber" = some (.ref (He.ga K "BadNumber")) := T.glo 34 rfl
theorem Tx.x_BadNumber (T : Tx K mg) : ExcF K mg "BadNumber" := ⟨T.glo 34 rfl, He.exc_ok (T.fct 35 rfl)⟩
theorem Tx.m_BadNumber (T : Tx K mg) : PySem.W.exmOne K (.ref (He.ga K "BadNumber")) (.ref (He.ga K "TerseError")) = some true := He.exm_ok (T.fct 36 rfl)
theorem Tx.g_BadBits (T : Tx K mg) : mg "BadBits" = some (.ref (He.ga K "BadBits")) := T.glo 37 rfl
theorem Tx.x_BadBits (T : Tx K mg) : ExcF K mg "BadBits" := ⟨T.glo 37 rfl, He.exc_ok (T.fct 38 rfl)⟩
theorem Tx.m_BadBits (T : Tx K mg) : PySem.W.exmOne K (.ref (He.ga K "BadBits")) (.ref (He.ga K "TerseError")) = some true := He.exm_ok (T.fct 39 rfl)
theorem Tx.g_BadPlace (T : Tx K mg) : mg "BadPlace" = some (.ref (He.ga K "BadPlace")) := T.glo 40 rfl
theorem Tx.x_BadPlace (T : Tx K mg) : ExcF K mg "BadPlace" := ⟨T.glo 40 rfl, He.exc_ok (T.fct 41 rfl)⟩
theorem Tx.m_BadPlace (T : Tx K mg) : PySem.W.exmOne K (.ref (He.ga K "BadPlace")) (.ref (He.ga K "TerseError")) = some true := He.exm_ok (T.fct 42 rfl)
theorem Tx.g_BadText (T : Tx K mg) : mg "BadText" = some (.ref (He.ga K "BadText")) := T.glo 43 rfl
theorem Tx.x_BadText (T : Tx K mg) : ExcF K mg "BadText" := ⟨T.glo 43 rfl, He.exc_ok (T.fct 44 rfl)⟩
theorem Tx.m_BadText (T : Tx K mg) : PySem.W.exmOne K (.ref (He.ga K "BadText")) (.ref (He.ga K "TerseError")) = some true := He.exm_ok (T.fct 45 rfl)
theorem Tx.g_BadCode (T : Tx K mg) : mg "BadCode" = some (.ref (He.ga K "BadCode")) := T.glo 46 rfl
theorem Tx.x_BadCode (T : Tx K mg) : ExcF K mg "BadCode" := ⟨T.glo 46 rfl, He.exc_ok (T.fct 47 rfl)⟩
theorem Tx.m_BadCode (T : Tx K mg) : PySem.W.exmOne K (.ref (He.ga K "BadCode")) (.ref (He.ga K "TerseError")) = some true := He.exm_ok (T.fct 48 rfl)
theorem Tx.g_BadTree (T : Tx K mg) : mg "BadTree" = some (.ref (He.ga K "BadTree")) := T.glo 49 rfl
theorem Tx.x_BadTree (T : Tx K mg) : ExcF K mg "BadTree" := ⟨T.glo 49 rfl, He.exc_ok (T.fct 50 rfl)⟩
theorem Tx.m_BadTree (T : Tx K mg) : PySem.W.exmOne K (.ref (He.ga K "BadTree")) (.ref (He.ga K "TerseError")) = some true := He.exm_ok (T.fct 51 rfl)
theorem Tx.g_TooMany (T : Tx K mg) : mg "TooMany" = some (.ref (He.ga K "TooMany")) := T.glo 52 rfl
theorem Tx.x_TooMany (T : Tx K mg) : ExcF K mg "TooMany" := ⟨T.glo 52 rfl, He.exc_ok (T.fct 53 rfl)⟩
theorem Tx.m_TooMany (T : Tx K mg) : PySem.W.exmOne K (.ref (He.ga K "TooMany")) (.ref (He.ga K "TerseError")) = some true := He.exm_ok (T.fct 54 rfl)
theorem Tx.g_Row (T : Tx K mg) : mg "Row" = some (.ref (He.ga K "Row")) := T.glo 55 rfl
theorem Tx.k_Row (T : Tx K mg) : Cls K (He.ga K "Row") := He.cls_ok (T.fct 56 rfl)
theorem Tx.mk_Row (T : Tx K mg) : Mk K (He.ga K "Row") (He.fAd K ("Row", some "__init__")) := He.mkr_ok (T.fct 57 rfl)
theorem Tx.n_Row_own (T : Tx K mg) : NoAttr K (He.ga K "Row") "own" := He.noat_ok (T.fct 58 rfl)
theorem Tx.n_Row_wide (T : Tx K mg) : NoAttr K (He.ga K "Row") "wide" := He.noat_ok (T.fct 59 rfl)
theorem Tx.n_Row_whole_blocks (T : Tx K mg) : NoAttr K (He.ga K "Row") "whole_blocks" := He.noat_ok (T.fct 60 rfl)
theorem Tx.n_Row_counts (T : Tx K mg) : NoAttr K (He.ga K "Row") "counts" := He.noat_ok (T.fct 61 rfl)
theorem Tx.n_Row_seen (T : Tx K mg) : NoAttr K (He.ga K "Row") "seen" := He.noat_ok (T.fct 62 rfl)
theorem Tx.M_Row_init (T : Tx K mg) : Meth K (He.ga K "Row") "__init__" (He.fAd K ("Row", some "__init__")) := He.meth_ok (T.fct 63 rfl)
theorem Tx.M_Row_need (T : Tx K mg) : Meth K (He.ga K "Row") "need" (He.fAd K ("Row", some "need")) := He.meth_ok (T.fct 64 rfl)
theorem Tx.M_Row_size (T : Tx K mg) : Meth K (He.ga K "Row") "size" (He.fAd K ("Row", some "size")) := He.meth_ok (T.fct 65 rfl)
theorem Tx.M_Row_bits (T : Tx K mg) : Meth K (He.ga K "Row") "bits" (He.fAd K ("Row", some "bits")) := He.meth_ok (T.fct 66 rfl)
theorem Tx.M_Row_look (T : Tx K mg) : Meth K (He.ga K "Row") "look" (He.fAd K ("Row", some "look")) := He.meth_ok (T.fct 67 rfl)
theorem Tx.M_Row_bit (T : Tx K mg) : Meth K (He.ga K "Row") "bit" (He.fAd K ("Row", some "bit")) := He.meth_ok (T.fct 68 rfl)
theorem Tx.M_Row_up_to (T : Tx K mg) : Meth K (He.ga K "Row") "up_to" (He.fAd K ("Row", some "up_to")) := He.meth_ok (T.fct 69 rfl)
theorem Tx.M_Row_ones (T : Tx K mg) : Meth K (He.ga K "Row") "ones" (He.fAd K ("Row", some "ones")) := He.meth_ok (T.fct 70 rfl)
theorem Tx.M_Row_noughts (T : Tx K mg) : Meth K (He.ga K "Row") "noughts" (He.fAd K ("Row", some "noughts")) := He.meth_ok (T.fct 71 rfl)
theorem Tx.M_Row_ahead (T : Tx K mg) : Meth K (He.ga K "Row") "ahead" (He.fAd K ("Row", some "ahead")) := He.meth_ok (T.fct 72 rfl)
theorem Tx.M_Row_found_at (T : Tx K mg) : Meth K (He.ga K "Row") "found_at" (He.fAd K ("Row", some "found_at")) := He.meth_ok (T.fct 73 rfl)
theorem Tx.M_Row_one_at (T : Tx K mg) : Meth K (He.ga K "Row") "one_at" (He.fAd K ("Row", some "one_at")) := He.meth_ok (T.fct 74 rfl)
theorem Tx.g_Wood (T : Tx K mg) : mg "Wood" = some (.ref (He.ga K "Wood")) := T.glo 75 rfl
theorem Tx.k_Wood (T : Tx K mg) : Cls K (He.ga K "Wood") := He.cls_ok (T.fct 76 rfl)
theorem Tx.mk_Wood (T : Tx K mg) : Mk K (He.ga K "Wood") (He.fAd K ("Wood", some "__init__")) := He.mkr_ok (T.fct 77 rfl)
theorem Tx.n_Wood_row (T : Tx K mg) : NoAttr K (He.ga K "Wood") "row" := He.noat_ok (T.fct 78 rfl)
theorem Tx.n_Wood_wide (T : Tx K mg) : NoAttr K (He.ga K "Wood") "wide" := He.noat_ok (T.fct 79 rfl)
theorem Tx.n_Wood_lows (T : Tx K mg) : NoAttr K (He.ga K "Wood") "lows" := He.noat_ok (T.fct 80 rfl)
theorem Tx.M_Wood_init (T : Tx K mg) : Meth K (He.ga K "Wood") "__init__" (He.fAd K ("Wood", some "__init__")) := He.meth_ok (T.fct 81 rfl)
theorem Tx.M_Wood_deep (T : Tx K mg) : Meth K (He.ga K "Wood") "deep" (He.fAd K ("Wood", some "deep")) := He.meth_ok (T.fct 82 rfl)
theorem Tx.M_Wood_low (T : Tx K mg) : Meth K (He.ga K "Wood") "low" (He.fAd K ("Wood", some "low")) := He.meth_ok (T.fct 83 rfl)
theorem Tx.M_Wood_need (T : Tx K mg) : Meth K (He.ga K "Wood") "need" (He.fAd K ("Wood", some "need")) := He.meth_ok (T.fct 84 rfl)
theorem Tx.M_Wood_need_node (T : Tx K mg) : Meth K (He.ga K "Wood") "need_node" (He.fAd K ("Wood", some "need_node")) := He.meth_ok (T.fct 85 rfl)
theorem Tx.M_Wood_first_down (T : Tx K mg) : Meth K (He.ga K "Wood") "first_down" (He.fAd K ("Wood", some "first_down")) := He.meth_ok (T.fct 86 rfl)
theorem Tx.M_Wood_last_at (T : Tx K mg) : Meth K (He.ga K "Wood") "last_at" (He.fAd K ("Wood", some "last_at")) := He.meth_ok (T.fct 87 rfl)
theorem Tx.M_Wood_size (T : Tx K mg) : Meth K (He.ga K "Wood") "size" (He.fAd K ("Wood", some "size")) := He.meth_ok (T.fct 88 rfl)
theorem Tx.M_Wood_node (T : Tx K mg) : Meth K (He.ga K "Wood") "node" (He.fAd K ("Wood", some "node")) := He.meth_ok (T.fct 89 rfl)
theorem Tx.M_Wood_number (T : Tx K mg) : Meth K (He.ga K "Wood") "number" (He.fAd K ("Wood", some "number")) := He.meth_ok (T.fct 90 rfl)
theorem Tx.M_Wood_end (T : Tx K mg) : Meth K (He.ga K "Wood") "end" (He.fAd K ("Wood", some "end")) := He.meth_ok (T.fct 91 rfl)
theorem Tx.M_Wood_number_behind (T : Tx K mg) : Meth K (He.ga K "Wood") "number_behind" (He.fAd K ("Wood", some "number_behind")) := He.meth_ok (T.fct 92 rfl)
theorem Tx.M_Wood_depth (T : Tx K mg) : Meth K (He.ga K "Wood") "depth" (He.fAd K ("Wood", some "depth")) := He.meth_ok (T.fct 93 rfl)
theorem Tx.M_Wood_many (T : Tx K mg) : Meth K (He.ga K "Wood") "many" (He.fAd K ("Wood", some "many")) := He.meth_ok (T.fct 94 rfl)
theorem Tx.M_Wood_own_nodes (T : Tx K mg) : Meth K (He.ga K "Wood") "own_nodes" (He.fAd K ("Wood", some "own_nodes")) := He.meth_ok (T.fct 95 rfl)
theorem Tx.M_Wood_leaves (T : Tx K mg) : Meth K (He.ga K "Wood") "leaves" (He.fAd K ("Wood", some "leaves")) := He.meth_ok (T.fct 96 rfl)
theorem Tx.M_Wood_height (T : Tx K mg) : Meth K (He.ga K "Wood") "height" (He.fAd K ("Wood", some "height")) := He.meth_ok (T.fct 97 rfl)
theorem Tx.M_Wood_deepest (T : Tx K mg) : Meth K (He.ga K "Wood") "deepest" (He.fAd K ("Wood", some "deepest")) := He.meth_ok (T.fct 98 rfl)
theorem Tx.M_Wood_above (T : Tx K mg) : Meth K (He.ga K "Wood") "above" (He.fAd K ("Wood", some "above")) := He.meth_ok (T.fct 99 rfl)
theorem Tx.M_Wood_parent (T : Tx K mg) : Meth K (He.ga K "Wood") "parent" (He.fAd K ("Wood", some "parent")) := He.meth_ok (T.fct 100 rfl)
theorem Tx.M_Wood_next_child (T : Tx K mg) : Meth K (He.ga K "Wood") "next_child" (He.fAd K ("Wood", some "next_child")) := He.meth_ok (T.fct 101 rfl)
theorem Tx.M_Wood_children (T : Tx K mg) : Meth K (He.ga K "Wood") "children" (He.fAd K ("Wood", some "children")) := He.meth_ok (T.fct 102 rfl)
theorem Tx.M_Wood_degree (T : Tx K mg) : Meth K (He.ga K "Wood") "degree" (He.fAd K ("Wood", some "degree")) := He.meth_ok (T.fct 103 rfl)
theorem Tx.M_Wood_child (T : Tx K mg) : Meth K (He.ga K "Wood") "child" (He.fAd K ("Wood", some "child")) := He.meth_ok (T.fct 104 rfl)
theorem Tx.M_Wood_which (T : Tx K mg) : Meth K (He.ga K "Wood") "which" (He.fAd K ("Wood", some "which")) := He.meth_ok (T.fct 105 rfl)
theorem Tx.M_Wood_last_child (T : Tx K mg) : Meth K (He.ga K "Wood") "last_child" (He.fAd K ("Wood", some "last_child")) := He.meth_ok (T.fct 106 rfl)
theorem Tx.M_Wood_is_above (T : Tx K mg) : Meth K (He.ga K "Wood") "is_above" (He.fAd K ("Wood", some "is_above")) := He.meth_ok (T.fct 107 rfl)
theorem Tx.M_Wood_above_both (T : Tx K mg) : Meth K (He.ga K "Wood") "above_both" (He.fAd K ("Wood", some "above_both")) := He.meth_ok (T.fct 108 rfl)
theorem Tx.M_Wood_level_next (T : Tx K mg) : Meth K (He.ga K "Wood") "level_next" (He.fAd K ("Wood", some "level_next")) := He.meth_ok (T.fct 109 rfl)
theorem Tx.exb (T : Tx K mg) : exB K = true := by
  have h := T.more
  unfold exL at h
  first | exact h | (simp only [Bool.and_eq_true] at h; exact h.1)
theorem Tx.ne_0 (T : Tx K mg) : (He.cT K ("_law_deeds", none)).2 ≠ (He.cT K ("law", none)).2 := by
  have h := T.more
  unfold exL at h
  simp only [Bool.and_eq_true, decide_eq_true_eq] at h
  exact h.2
theorem Tx.tk__law_deeds (_ : Tx K mg) : ((He.cT K ("_law_deeds", none)).2, ((envOfC "_law_deeds" (defScope (top 35)) 0 0 .none).qual ++ "<lambda>" : Str)) ∈ tK K := by simp [tK]
theorem Tx.tu__law_deeds (T : Tx K mg) : ∀ p ∈ tK K, p.1 = (He.cT K ("_law_deeds", none)).2 → p.2 = ((envOfC "_law_deeds" (defScope (top 35)) 0 0 .none).qual ++ "<lambda>" : Str) := fun p hp e => by
  unfold tK at hp
  simp only [List.mem_cons, List.not_mem_nil, or_false] at hp
  rcases hp with rfl | rfl
  · rfl
  · exact absurd e (Ne.symm T.ne_0)
theorem Tx.tk_law (_ : Tx K mg) : ((He.cT K ("law", none)).2, ((envOfC "law" (defScope (top 36)) 0 0 .none).qual ++ "<lambda>" : Str)) ∈ tK K := by simp [tK]
theorem Tx.tu_law (T : Tx K mg) : ∀ p ∈ tK K, p.1 = (He.cT K ("law", none)).2 → p.2 = ((envOfC "law" (defScope (top 36)) 0 0 .none).qual ++ "<lambda>" : Str) := fun p hp e => by
  unfold tK at hp
  simp only [List.mem_cons, List.not_mem_nil, or_false] at hp
  rcases hp with rfl | rfl
  · exact absurd e T.ne_0
  · rfl
end
end Tw

set_option maxHeartbeats 4000000
namespace Tw
open PySem PySem.Spec PyProof.Rows L2 LamX
/-! ### told(lambda: ..) -/
/-- what is wished of a refusal: its class's name is told -/
def EW (K : PySem.W.Frag) (T : List (Addr × Str)) (Q : VK) : XK := fun cls d H => ∃ x ∈ seven, cls = .ref (He.ga K x) ∧ d = none ∧ ∀ H', Xt T H H' → Q (.str x) H'
/-- the word of the exception -/
def spWord (K : PySem.W.Frag) (T : List (Addr × Str)) : Addr × Obj → List V → Hp → VK → Prop := fun p vs H Q => ∃ x ∈ seven, vs = [.ref p.1] ∧ Zc (.ref (He.ga K x)) none p.2 ∧ (∃ us, p.2.data = .fields us) ∧ ∀ H', Xt T H H' → Q (.str x) H'
/-- the context of told's frame -/
abbrev toldX (X : Cx) (Ng : List Str) (sg : Scope) (g : Addr) (cdg : Value) (s : Shared) (H : Hp) : Cx := cxOf CX0 X.prog X.w X.K X.mg X.base Ng "_law_told" sg g cdg X.A X.stack s H E0
section
variable {X : Cx}
theorem told_gen {Tt : List (Addr × Str)} {g gW c Pt : Addr} {k : Nat} {pg : Arguments} {sg : Scope} {fdT fdW : FuncData} {params : Arguments} {body : Expr} {scope : Scope} {t : XK → TE} {p lpos pos : Pos}
    {p1 p2 p3 p4 p5 p6 p7 p8 p9 p10 : Pos} (hg : Gl X "_law_told") (hm : X.mg "_law_told" = some (.ref g))
    (FT : FunD X.K "_law_told" "_law_told" pg [.Try [.Return (some (.Call (.Name "_law_deed" p1) [] [] p2)) p3] [.ExceptHandler (some (.Name "TerseError" p4)) (some "_law_e") [.Return (some (.Call (.Name "_law_word" p5) [.Name "_law_e" p6] [] p7)) p8] p9] [] [] p10] sg [] [] g fdT)
    (BT : Binds X.K fdT ["_law_deed"] []) (ST : FnScope ["_law_deed", "_law_e"] ["_law_deed"] sg) (l1 : sg.names.lookup ("_law_deed" : Str) = some .local) (l2 : sg.names.lookup ("_law_e" : Str) = some .local) (l3 : sg.names.lookup ("TerseError" : Str) = some .globalImplicit) (l4 : sg.names.lookup ("_law_word" : Str) = some .globalImplicit)
    (gE : X.mg "TerseError" = some (.ref (He.ga X.K "TerseError"))) (gW1 : X.mg "_law_word" = some (.ref gW)) (kW : PySem.W.keepIn X.K (.ref gW) = true) (BW : Binds X.K fdW ["_law_e"] []) (FW : FnHp X.prog X.w X.K X.mg X.base 1 gW fdW ["_law_e"] (spWord X.K Tt)) (xB : exB X.K = true)
    (TB : TabB X.base X.mg c Pt) (hcode : X.env.code = .ref c) (hmT : (Pt, X.env.qual ++ "<lambda>") ∈ Tt) (hu : ∀ p ∈ Tt, p.1 = Pt → p.2 = X.env.qual ++ "<lambda>") (hr : Room (k + 4) X.A) (L : LamS X.env.scope scope) (hdef : defaultsOf params X.env = ([], []))
    (hbind : ∀ (q : Str) (cl : List (Str × Addr)) (pm cv ctv : Value), bindArgs (PySem.W.kla_fn "<lambda>" q params body scope cl pm cv ctv) ⟨[], []⟩ = pure [])
    (hbody : ∀ (A : Around) (outer : List Env) (s : Shared) (H : Hp) (E : XK) (f c' : Addr), Room (k + 2) (A.deeper (lamEnv X scope s.heap.objs.size f c')) → PE (lamN X A outer s H E scope f c') body (t E)) :
    PE X (.Call (.Name "_law_told" p) [.Lambda params body scope lpos] [] pos) (fun σ H Q => Tabs Tt H ∧ ∀ H1, ExtN H H1 → Tabs Tt H1 → t (EW X.K Tt Q) σ H1 Q) := by
  refine ⟨fun pins s σ H Q I ⟨hT, h⟩ => ?_⟩
  obtain ⟨oc, od, dV, kV, doc, pm, an, cdv, ct, osl, rfl, lk, hcg, hD, _⟩ := FT.ex
  have edV : dV = .none := by
    rcases hD with ⟨_, e⟩ | ⟨e, _⟩
    · exact e
    · exact absurd rfl e
  refine wpAny_Call_Name_kw (ld_glob I hg hm ?_ (by decide))
  refine PySem.W.callWith_K (h₀ := X.base) I.ok.mod.kin FT.kp ?_ (by rfl) (by rfl)
  show wpAny _ _ (spliced ((false, eval (.Lambda params body scope lpos) X.env) :: backTo pos (starEach [] X.env))) _ _ s
  refine Calls.spliced_cons (lam_make2 I TB hcode hmT hu hT hdef (L.has I.ok) fun f c' pm' ctv H1 s' I1 eN T1 hf hfn hfr hco => ?_)
  refine Calls.spliced_nil ⟨I1.kIn, ?_⟩
  have b := BT s' [.ref f] I1.kIn rfl
  have rc : codeAny (model X.prog X.w) X.A (.call (.ref g) ⟨[.ref f], []⟩) (CR CX0 X.stack X.prog X.w H1 s' Q E0) s' := by
    refine run_ofS (k := k + 3) (N := ["_law_deed", "_law_e"]) (ps := ["_law_deed"]) (us := [.ref f]) (vs := [.ref f]) lk hcg ST hr I1.env0 b (.cons rfl .nil) rfl fun hr' => ?_
    have word : ∀ (a : Addr) (oe : Obj) (cls : Value) (d : Option Addr) (pn : List (Addr × Obj)), L2N.Zn cls d oe → (∃ vs, oe.data = .fields vs) →
        PSs ((toldX X ["_law_deed", "_law_e"] sg g cdv s' H1).suite a ((a, oe) :: pn)) [.Return (some (.Call (.Name "_law_word" p5) [.Name "_law_e" p6] [] p7)) p8]
          (fun D σ H => (∃ σ0 : L2.St, σ = σ0.set 1 (some (.ref a))) ∧ ∃ x ∈ seven, cls = .ref (He.ga X.K x) ∧ d = none ∧ ∀ H', Xt Tt H H' → D.rt (.str x) H') := by
      intro a oe cls d pn hz hfs
      have hot : L2H.Hot1 ((toldX X ["_law_deed", "_law_e"] sg g cdv s' H1).suite a ((a, oe) :: pn)).A (a, oe) := by
        obtain ⟨vs, hv⟩ := hfs
        exact ⟨rfl, vs, hv, hz.2.2 vs hv⟩
      have hp := pss_one (ps_ret (pos := p8) (pe_callHp (X := (toldX X ["_law_deed", "_law_e"] sg g cdv s' H1).suite a ((a, oe) :: pn)) (x := "_law_word") (q := p5) (pos := p7) (p := (a, oe)) FW
        (L2H.RoomH.mono (k := k + 3) ⟨hr'.dp, hr'.un⟩ (by omega)) hot List.mem_cons_self (show sg.names.lookup ("_law_word" : Str) = _ from l4) gW1 kW BW (pa_cons (pe_var (i := 1) (pos := p6) rfl (.inl l2)) pa_nil) (by decide)))
      refine ⟨fun pins s σ H D I ⟨⟨σ0, h1⟩, x, hx, e1, e2, h2⟩ => hp.run pins s σ H D I ?_⟩
      have hl : σ.length = 2 := I.len
      have h1 : σ[1]? = some (some (.ref a)) := by
        rw [h1] at hl ⊢
        rw [List.length_set] at hl
        rw [List.getElem?_set_self (by omega)]
      refine ⟨.ref a, h1, x, hx, rfl, ?_, hfs, h2⟩
      rw [← e1, ← e2]
      exact hz.zc
    refine ⟨_, PSs.nox (pss_one (L2N.ps_try_as (X := (toldX X ["_law_deed", "_law_e"] sg g cdv s' H1).nox) (c := .ref (He.ga X.K "TerseError")) (i := 1) (Wout := fun _ _ _ _ => False)
      (tb := fun W D σ' H' => ∃ Ech : XK, (∀ cls d σ' H', Ech cls d H' → W cls d σ' H') ∧ σ'[0]? = some (some (.ref f)) ∧ H' c' = some (CodeO c' (X.env.qual ++ "<lambda>")) ∧ t Ech σ H' D.rt)
      rfl rfl ST.nd rfl l2 ⟨l3, by decide, .inl gE⟩ (fun _ _ x => by obtain ⟨_, _, _, _, _, _, _, _, _, _, _, _, _, _, _, _, z⟩ := x; exact z.elim) (fun W pn xe tk _ => ?_) word)), ?_⟩
    · refine ⟨fun pins s2 σ2 H2 D I2 ⟨Ech, hW, h1, h2, h3⟩ => ?_⟩
      have hp := act (pn := pn) (xe := xe) (W := W) (E := Ech) (tb := t Ech) (p1 := p1) (p2 := p2) (a := "_law_deed") (i := 0) (Ng := ["_law_deed", "_law_e"]) (CXg := CX0) (Eg := E0) (qg := "_law_told") (sg := sg) (g := g) (cdg := cdv) I1 L hf hfn hfr (hbind _ _ _ _ _) tk hW hr'
        (fun A outer s H hr2 => hbody A outer s H Ech f c' hr2) rfl (.inl l1) (by decide) (by decide)
      exact (pss_one (ps_ret (pos := p3) hp)).run pins s2 σ2 H2 D I2 ⟨h1, h2, h3⟩
    · refine ⟨EW X.K Tt Q, fun cls d σ2 H2 ⟨x, hx, e1, e2, h2⟩ => ?_, rfl, hco, h H1 eN T1⟩
      refine ⟨true, by rw [e1]; exact (bad_of xB hx).t, fun _ a na => ?_, fun z => by cases z⟩
      exact ⟨⟨σ2, rfl⟩, x, hx, e1, e2, h2⟩
  refine wpAny_call (codeAny_mono rc fun r s2 hq => ?_)
  cases r with
  | error e => exact (show False from hq).elim
  | ok fl =>
    cases fl with
    | ret u => exact I1.after hq
    | next => exact False.elim hq
    | brk => exact False.elim hq
    | cont => exact False.elim hq
end
end Tw

set_option maxHeartbeats 4000000
namespace Tw
open PySem PySem.Spec PyProof.Rows L2 LamX
/-! ### comprehensions whose elements change nothing that stood -/
def Yy (y : Nat → V → Prop) : Nat → Hp → V → Hp → Prop := fun i H x H' => H' = H ∧ y i x
def kept (n : Nat) (f : Nat → Bool) (r : Nat → V) : List V := ((List.range n).filter f).map r
theorem kept_yes {n : Nat} {f : Nat → Bool} {r : Nat → V} (h : f n = true) : kept (n + 1) f r = kept n f r ++ [r n] := by
  unfold kept
  rw [List.range_succ, List.filter_append, List.map_append, List.filter_cons, if_pos h]
  rfl
theorem kept_no {n : Nat} {f : Nat → Bool} {r : Nat → V} (h : f n = false) : kept (n + 1) f r = kept n f r := by
  unfold kept
  rw [List.range_succ, List.filter_append, List.map_append, List.filter_cons, if_neg (by rw [h]; decide)]
  exact List.append_nil _
theorem kept_len (n : Nat) (f : Nat → Bool) (r : Nat → V) : (kept n f r).length ≤ n := by
  unfold kept
  rw [List.length_map]
  exact Nat.le_trans (List.length_filter_le _ _) (by rw [List.length_range]; exact Nat.le_refl _)
theorem kept_all (n : Nat) (r : Nat → V) : kept n (fun _ => true) r = (List.range n).map r := by
  unfold kept
  rw [List.filter_eq_self.mpr fun _ _ => rfl]
section
variable {lo : Prop} {T : List (Addr × Str)} {J : It} {n : Nat} {G : Hp → Prop} {y : Nat → V → Prop} {te : TE} {tt : TT} {j : Nat} {σ : L2.St} {H1 : Hp} {D : Addr} {Qd : Hp → Prop} {f : Nat → Bool} {r : Nat → V}
theorem wipe1 (σ : L2.St) (j : Nat) (x : Option V) : wipe ((wipe σ [j]).set j x) [j] = wipe σ [j] := by
  show ((σ.set j none).set j x).set j none = σ.set j none
  rw [List.set_set, List.set_set]
/-- with a test -/
theorem lcFg (w : Walk J n G (Yy y)) (hD : H1 D = none) (hn : n ≤ 1000000) (hG : ∀ H', Xg lo T H1 H' → G H') (f : Nat → Bool) (r : Nat → V)
    (ht : ∀ i x H', i < n → y i x → Xg lo T H1 H' → ∀ Q : Bool → Hp → Prop, (∀ H4, Xg lo T H' H4 → Q (f i) H4) → tt ((wipe σ [j]).set j (some x)) H' Q)
    (he : ∀ i x H', i < n → y i x → f i = true → Xg lo T H1 H' → ∀ Q : VK, (∀ H4, Xg lo T H' H4 → Q (r i) H4) → te ((wipe σ [j]).set j (some x)) H' Q)
    (hd : ∀ H', Xg lo T H1 H' → H' D = some (.lst (kept n f r)) → Qd H') :
    ∃ W : Nat → Nat → Hp → Prop, (∃ m, W 0 m (upd H1 D (.lst []))) ∧ ∀ i m H, W i m H →
      (J.stop i H ∧ Qd H) ∨ (J.go i H ∧ ∃ Nx : Hp → Prop, (∀ H', Nx H' → ∃ m', m' < m ∧ W (i + 1) m' H') ∧ ∀ x H', J.yld i H x H' → gName j x (wipe σ [j]) H' fun σ2 H2 => wipe σ2 [j] = wipe σ [j] ∧ tt σ2 H2 fun b H3 =>
        if b = true then te σ2 H3 fun y H4 => ∃ acc, H4 D = some (.lst acc) ∧ acc.length < sizeLine ∧ Nx (upd H4 D (.lst (acc ++ [y]))) else Nx H3) := by
  have hz : ∀ i, i < n → (kept i f r).length < sizeLine := fun i hi => Nat.lt_of_le_of_lt (Nat.le_trans (kept_len i f r) (Nat.le_trans (Nat.le_of_lt hi) hn)) (by decide)
  refine lc_it w (fun i H => Xg lo T H1 H ∧ H D = some (.lst (kept i f r))) ⟨Xg.new hD, by rw [upd_same]; rfl⟩ (fun i H _ p => hG H p.1) (fun i x H H' hi p hy => ?_) fun H p => hd H p.1 p.2
  obtain ⟨eH, hy⟩ := hy
  subst eH
  refine ⟨wipe1 σ j _, ht i x H' hi hy p.1 _ fun H4 x4 => ?_⟩
  cases hf : f i with
  | true =>
    refine iteT (he i x H4 hi hy hf (p.1.trans x4) _ fun H5 x5 => ?_)
    have e5 := (x4.trans x5).lst p.2
    refine ⟨kept i f r, e5, hz i hi, ((p.1.trans x4).trans x5).mut (.of hD) e5, ?_⟩
    rw [upd_same, kept_yes hf]
  | false =>
    refine iteF ⟨p.1.trans x4, ?_⟩
    rw [kept_no hf]
    exact x4.lst p.2
/-- without one -/
theorem lcPg (w : Walk J n G (Yy y)) (hD : H1 D = none) (hn : n ≤ 1000000) (hG : ∀ H', Xg lo T H1 H' → G H') (r : Nat → V)
    (he : ∀ i x H', i < n → y i x → Xg lo T H1 H' → ∀ Q : VK, (∀ H4, Xg lo T H' H4 → Q (r i) H4) → te ((wipe σ [j]).set j (some x)) H' Q)
    (hd : ∀ H', Xg lo T H1 H' → H' D = some (.lst ((List.range n).map r)) → Qd H') :
    ∃ W : Nat → Nat → Hp → Prop, (∃ m, W 0 m (upd H1 D (.lst []))) ∧ ∀ i m H, W i m H →
      (J.stop i H ∧ Qd H) ∨ (J.go i H ∧ ∃ Nx : Hp → Prop, (∀ H', Nx H' → ∃ m', m' < m ∧ W (i + 1) m' H') ∧ ∀ x H', J.yld i H x H' → gName j x (wipe σ [j]) H' fun σ2 H2 => wipe σ2 [j] = wipe σ [j] ∧ tYes σ2 H2 fun b H3 =>
        if b = true then te σ2 H3 fun y H4 => ∃ acc, H4 D = some (.lst acc) ∧ acc.length < sizeLine ∧ Nx (upd H4 D (.lst (acc ++ [y]))) else Nx H3) :=
  lcFg w hD hn hG (fun _ => true) r (fun i x H' _ _ _ Q q => q H' Xg.refl) (fun i x H' hi hy _ => he i x H' hi hy) fun H' x' e => hd H' x' (by rw [e, kept_all])
theorem lcF (w : Walk J n G (Yy y)) (hD : H1 D = none) (hn : n ≤ 1000000) (hG : ∀ H', Xg True T H1 H' → G H') (f : Nat → Bool) (r : Nat → V)
    (ht : ∀ i x H', i < n → y i x → Xg True T H1 H' → ∀ Q : Bool → Hp → Prop, (∀ H4, Xg True T H' H4 → Q (f i) H4) → tt ((wipe σ [j]).set j (some x)) H' Q)
    (he : ∀ i x H', i < n → y i x → f i = true → Xg True T H1 H' → ∀ Q : VK, (∀ H4, Xg True T H' H4 → Q (r i) H4) → te ((wipe σ [j]).set j (some x)) H' Q)
    (hd : ∀ H', Xg True T H1 H' → H' D = some (.lst (kept n f r)) → Qd H') :
    ∃ W : Nat → Nat → Hp → Prop, (∃ m, W 0 m (upd H1 D (.lst []))) ∧ ∀ i m H, W i m H →
      (J.stop i H ∧ Qd H) ∨ (J.go i H ∧ ∃ Nx : Hp → Prop, (∀ H', Nx H' → ∃ m', m' < m ∧ W (i + 1) m' H') ∧ ∀ x H', J.yld i H x H' → gName j x (wipe σ [j]) H' fun σ2 H2 => wipe σ2 [j] = wipe σ [j] ∧ tt σ2 H2 fun b H3 =>
        if b = true then te σ2 H3 fun y H4 => ∃ acc, H4 D = some (.lst acc) ∧ acc.length < sizeLine ∧ Nx (upd H4 D (.lst (acc ++ [y]))) else Nx H3) := lcFg w hD hn hG f r ht he hd
theorem lcP (w : Walk J n G (Yy y)) (hD : H1 D = none) (hn : n ≤ 1000000) (hG : ∀ H', Xg True T H1 H' → G H') (r : Nat → V)
    (he : ∀ i x H', i < n → y i x → Xg True T H1 H' → ∀ Q : VK, (∀ H4, Xg True T H' H4 → Q (r i) H4) → te ((wipe σ [j]).set j (some x)) H' Q)
    (hd : ∀ H', Xg True T H1 H' → H' D = some (.lst ((List.range n).map r)) → Qd H') :
    ∃ W : Nat → Nat → Hp → Prop, (∃ m, W 0 m (upd H1 D (.lst []))) ∧ ∀ i m H, W i m H →
      (J.stop i H ∧ Qd H) ∨ (J.go i H ∧ ∃ Nx : Hp → Prop, (∀ H', Nx H' → ∃ m', m' < m ∧ W (i + 1) m' H') ∧ ∀ x H', J.yld i H x H' → gName j x (wipe σ [j]) H' fun σ2 H2 => wipe σ2 [j] = wipe σ [j] ∧ tYes σ2 H2 fun b H3 =>
        if b = true then te σ2 H3 fun y H4 => ∃ acc, H4 D = some (.lst acc) ∧ acc.length < sizeLine ∧ Nx (upd H4 D (.lst (acc ++ [y]))) else Nx H3) := lcPg w hD hn hG r he hd
theorem lcFs (w : Walk J n G (Yy y)) (hD : H1 D = none) (hn : n ≤ 1000000) (hG : ∀ H', Xg False T H1 H' → G H') (f : Nat → Bool) (r : Nat → V)
    (ht : ∀ i x H', i < n → y i x → Xg False T H1 H' → ∀ Q : Bool → Hp → Prop, (∀ H4, Xg False T H' H4 → Q (f i) H4) → tt ((wipe σ [j]).set j (some x)) H' Q)
    (he : ∀ i x H', i < n → y i x → f i = true → Xg False T H1 H' → ∀ Q : VK, (∀ H4, Xg False T H' H4 → Q (r i) H4) → te ((wipe σ [j]).set j (some x)) H' Q)
    (hd : ∀ H', Xg False T H1 H' → H' D = some (.lst (kept n f r)) → Qd H') :
    ∃ W : Nat → Nat → Hp → Prop, (∃ m, W 0 m (upd H1 D (.lst []))) ∧ ∀ i m H, W i m H →
      (J.stop i H ∧ Qd H) ∨ (J.go i H ∧ ∃ Nx : Hp → Prop, (∀ H', Nx H' → ∃ m', m' < m ∧ W (i + 1) m' H') ∧ ∀ x H', J.yld i H x H' → gName j x (wipe σ [j]) H' fun σ2 H2 => wipe σ2 [j] = wipe σ [j] ∧ tt σ2 H2 fun b H3 =>
        if b = true then te σ2 H3 fun y H4 => ∃ acc, H4 D = some (.lst acc) ∧ acc.length < sizeLine ∧ Nx (upd H4 D (.lst (acc ++ [y]))) else Nx H3) := lcFg w hD hn hG f r ht he hd
theorem lcPs (w : Walk J n G (Yy y)) (hD : H1 D = none) (hn : n ≤ 1000000) (hG : ∀ H', Xg False T H1 H' → G H') (r : Nat → V)
    (he : ∀ i x H', i < n → y i x → Xg False T H1 H' → ∀ Q : VK, (∀ H4, Xg False T H' H4 → Q (r i) H4) → te ((wipe σ [j]).set j (some x)) H' Q)
    (hd : ∀ H', Xg False T H1 H' → H' D = some (.lst ((List.range n).map r)) → Qd H') :
    ∃ W : Nat → Nat → Hp → Prop, (∃ m, W 0 m (upd H1 D (.lst []))) ∧ ∀ i m H, W i m H →
      (J.stop i H ∧ Qd H) ∨ (J.go i H ∧ ∃ Nx : Hp → Prop, (∀ H', Nx H' → ∃ m', m' < m ∧ W (i + 1) m' H') ∧ ∀ x H', J.yld i H x H' → gName j x (wipe σ [j]) H' fun σ2 H2 => wipe σ2 [j] = wipe σ [j] ∧ tYes σ2 H2 fun b H3 =>
        if b = true then te σ2 H3 fun y H4 => ∃ acc, H4 D = some (.lst acc) ∧ acc.length < sizeLine ∧ Nx (upd H4 D (.lst (acc ++ [y]))) else Nx H3) := lcPg w hD hn hG r he hd
end
section
variable {lo : Prop} {T : List (Addr × Str)} {J : It} {n : Nat} {G : Hp → Prop} {y : Nat → V → Prop} {te : TE} {j : Nat} {σ : L2.St} {H1 : Hp} {D : Addr} {Qd : Hp → Prop} {r : Nat → V}
/-- without a test, with what is known of the heap at each item -/
theorem lcI (R : Nat → Hp → Prop) (w : Walk J n G (Yy y)) (hD : H1 D = none) (hn : n ≤ 1000000) (hG : ∀ i H', Xg lo T H1 H' → R i H' → G H') (h0 : R 0 H1) (hR : ∀ i H xs, Xg lo T H1 H → R i H → R i (upd H D (.lst xs))) (r : Nat → V)
    (he : ∀ i x H', i < n → y i x → Xg lo T H1 H' → R i H' → ∀ Q : VK, (∀ H4, Xg lo T H' H4 → R (i + 1) H4 → Q (r i) H4) → te ((wipe σ [j]).set j (some x)) H' Q)
    (hd : ∀ H', Xg lo T H1 H' → R n H' → H' D = some (.lst ((List.range n).map r)) → Qd H') :
    ∃ W : Nat → Nat → Hp → Prop, (∃ m, W 0 m (upd H1 D (.lst []))) ∧ ∀ i m H, W i m H →
      (J.stop i H ∧ Qd H) ∨ (J.go i H ∧ ∃ Nx : Hp → Prop, (∀ H', Nx H' → ∃ m', m' < m ∧ W (i + 1) m' H') ∧ ∀ x H', J.yld i H x H' → gName j x (wipe σ [j]) H' fun σ2 H2 => wipe σ2 [j] = wipe σ [j] ∧ tYes σ2 H2 fun b H3 =>
        if b = true then te σ2 H3 fun y H4 => ∃ acc, H4 D = some (.lst acc) ∧ acc.length < sizeLine ∧ Nx (upd H4 D (.lst (acc ++ [y]))) else Nx H3) := by
  refine lc_it w (fun i H => Xg lo T H1 H ∧ R i H ∧ H D = some (.lst ((List.range i).map r))) ⟨Xg.new hD, hR 0 H1 [] .refl h0, by rw [upd_same]; rfl⟩ (fun i H _ p => hG i H p.1 p.2.1) (fun i x H H' hi p hy => ?_) fun H p => hd H p.1 p.2.1 p.2.2
  obtain ⟨eH, hy⟩ := hy
  subst eH
  refine ⟨wipe1 σ j _, ?_⟩
  unfold tYes
  refine iteT ?_
  refine he i x _ hi hy p.1 p.2.1 _ fun H5 x5 r5 => ?_
  have e5 := x5.lst p.2.2
  refine ⟨_, e5, ?_, (p.1.trans x5).mut (.of hD) e5, hR (i + 1) H5 _ (p.1.trans x5) r5, ?_⟩
  · rw [List.length_map, List.length_range]
    exact Nat.lt_of_lt_of_le hi (Nat.le_trans hn (by decide))
  · rw [upd_same, List.range_succ, List.map_append]
    rfl
end
section
variable {K : PySem.W.Frag} {a : Addr} {xs : List V}
theorem w_list : Walk (Itl K a) xs.length (fun H => SqL K H a xs) (Yy fun i x => xs[i]? = some x) := walk_list
theorem w_range {lo : Int} {n : Nat} : Walk (Itr lo n) n (fun _ => True) (Yy fun i x => x = .int (lo + i)) := walk_range
theorem w_rangeC {lo c : Int} {n : Nat} : Walk (Itc lo c n) n (fun _ => True) (Yy fun i x => x = .int (lo + (i : Nat) * c)) := walk_rangeC
end
theorem small_up {a b c : Int} (ha : 0 ≤ a ∧ a ≤ 1000000) (hb : 0 ≤ b ∧ b ≤ 1000000) (hc : 1 ≤ c ∧ c ≤ 1000000) : Builtin.Range.small a b c = true := by
  unfold Builtin.Range.small Builtin.Range.rangeSize
  have h1 : (b - a - 1) / c ≤ b - a - 1 ∨ b - a - 1 < 0 := by
    by_cases h : b - a - 1 < 0
    · exact .inr h
    · exact .inl (Int.ediv_le_self _ (by omega))
  have h2 : 0 ≤ (b - a - 1) / c ∨ b - a - 1 < 0 := by
    by_cases h : b - a - 1 < 0
    · exact .inr h
    · exact .inl (Int.ediv_nonneg (by omega) (by omega))
  simp only [Builtin.Range.rangeFitsLong, Bool.and_eq_true, Bool.or_eq_true, decide_eq_true_eq, beq_iff_eq, show c > 0 by omega, if_true]
  split <;> omega
/-! ### texts by their codes -/
def S (l : List Nat) : Str := ⟨l.toArray⟩
theorem S_app (a b : List Nat) : S a ++ S b = S (a ++ b) := by
  show (⟨a.toArray ++ b.toArray⟩ : Str) = ⟨(a ++ b).toArray⟩
  rw [List.append_toArray]
theorem S_len (l : List Nat) : (S l).length = l.length := by
  show l.toArray.size = l.length
  exact List.size_toArray
theorem S_inj {a b : List Nat} (h : S a = S b) : a = b := by
  have e : (S a).cps = (S b).cps := congrArg Str.cps h
  have e2 : a.toArray = b.toArray := e
  exact congrArg Array.toList e2
theorem S_of (z : Str) : z = S z.cps.toList := by
  cases z
  rfl
theorem w_str {l : List Nat} : Walk (Its (S l)) l.length (fun _ => True) (Yy fun i x => ∃ c, l[i]? = some c ∧ x = .str (S [c])) := by
  have h := walk_str (z := S l)
  have e : (S l).cps.size = l.length := S_len l
  rw [e] at h
  refine h.mono (fun _ _ => trivial) fun i H x H' _ _ y => ⟨y.1, ?_⟩
  obtain ⟨c, h1, h2⟩ := y.2
  exact ⟨c, by simpa [S] using h1, h2⟩
/-- bits as a text -/
def bc (b : Bool) : Nat := if b then 49 else 48
def sb (l : List Bool) : Str := S (l.map bc)
theorem sb_app (a b : List Bool) : sb a ++ sb b = sb (a ++ b) := by
  unfold sb
  rw [S_app, List.map_append]
theorem sb_len (l : List Bool) : (sb l).length = l.length := by
  unfold sb
  rw [S_len, List.length_map]
theorem bc_inj {a b : Bool} (h : bc a = bc b) : a = b := by
  cases a <;> cases b <;> first | rfl | cases h
theorem sb_inj {a b : List Bool} (h : sb a = sb b) : a = b := by
  have e := S_inj h
  exact (List.map_inj_right (f := bc) fun x y => bc_inj).mp e
theorem sb_nil : (Str.ofString "" : Str) = sb [] := by decide +kernel
theorem sb_0 : (Str.ofString "0" : Str) = sb [false] := by decide +kernel
theorem sb_1 : (Str.ofString "1" : Str) = sb [true] := by decide +kernel
/-! ### slices -/
theorem cut_S (l : List Nat) (i j : Nat) : cutS (S l) (some (i : Int)) (some (j : Int)) = S ((l.take j).drop i) := by
  unfold cutS
  rw [HT.sIx_nat, HT.sIx_nat, S_len]
  show (⟨_⟩ : Str) = ⟨_⟩
  congr 2
  show ((l.drop (min i l.length)).take (min j l.length - min i l.length)) = _
  rw [List.drop_take]
  by_cases hi : i ≤ l.length
  · rw [Nat.min_eq_left hi]
    by_cases hj : j ≤ l.length
    · rw [Nat.min_eq_left hj]
    · rw [Nat.min_eq_right (by omega), List.take_of_length_le (by rw [List.length_drop]; omega), List.take_of_length_le (by rw [List.length_drop]; omega)]
  · rw [List.drop_eq_nil_of_le (by omega : l.length ≤ min i l.length), List.drop_eq_nil_of_le (by omega : l.length ≤ i)]
    simp
theorem cut_sb (l : List Bool) (i j : Nat) : cutS (sb l) (some (i : Int)) (some (j : Int)) = sb ((l.take j).drop i) := by
  unfold sb
  rw [cut_S, List.map_drop, List.map_take]
end Tw

set_option maxHeartbeats 4000000
namespace Tw
open PySem PySem.Spec PyProof.Rows L2 LamX
/-! ### how many bits a number needs -/
def nd (n : Nat) : Nat := if h : n = 0 then 0 else nd (n / 2) + 1
theorem nd_zero : nd 0 = 0 := by rw [nd]; rfl
theorem nd_pos {n : Nat} (h : 0 < n) : nd n = nd (n / 2) + 1 := by
  rw [nd, dif_neg (Nat.ne_of_gt h)]
theorem nd_le : ∀ (w n : Nat), nd n ≤ w ↔ n < 2 ^ w
  | 0, n => by
    rcases Nat.eq_zero_or_pos n with h | h
    · subst h; rw [nd_zero]; decide
    · rw [nd_pos h]; simp; omega
  | w + 1, n => by
    rcases Nat.eq_zero_or_pos n with h | h
    · subst h; rw [nd_zero]; simp [Nat.pow_pos]
    · rw [nd_pos h, Nat.pow_succ]
      have := nd_le w (n / 2)
      omega
theorem nd_lo2 {n : Nat} (h : 0 < n) : 0 < nd n := by rw [nd_pos h]; omega
theorem nd_le_self (n : Nat) : nd n ≤ n := (nd_le n n).mpr Nat.lt_two_pow_self
/-! ### a number in so many bits -/
def bn (n : Nat) : Nat → List Bool
  | 0 => []
  | w + 1 => bn (n / 2) w ++ [n % 2 == 1]
theorem bn_len : ∀ (w n : Nat), (bn n w).length = w
  | 0, _ => rfl
  | w + 1, n => by rw [bn, List.length_append, bn_len w]; rfl
theorem bn_front : ∀ (w n : Nat), bn n (w + 1) = (n / 2 ^ w % 2 == 1) :: bn n w
  | 0, n => by simp [bn]
  | w + 1, n => by
    rw [bn, bn_front w (n / 2), bn, List.cons_append, Nat.div_div_eq_div_mul, Nat.pow_succ, Nat.mul_comm]
/-- the number that bits tell -/
def vb (l : List Bool) : Nat := l.foldl (fun a b => 2 * a + b.toNat) 0
theorem vb_snoc (l : List Bool) (b : Bool) : vb (l ++ [b]) = 2 * vb l + b.toNat := by
  unfold vb
  rw [List.foldl_append]
  rfl
theorem vb_bn : ∀ (w n : Nat), vb (bn n w) = n % 2 ^ w
  | 0, n => by simp [bn, vb, Nat.mod_one]
  | w + 1, n => by
    rw [bn, vb_snoc, vb_bn w (n / 2)]
    have e : (n % 2 == 1).toNat = n % 2 := by
      rcases Nat.mod_two_eq_zero_or_one n with h | h <;> rw [h] <;> rfl
    rw [e, Nat.pow_succ, Nat.mul_comm (2 ^ w) 2, Nat.mod_mul]
    omega
theorem bn_vb_lt {w n : Nat} (h : n < 2 ^ w) : vb (bn n w) = n := by rw [vb_bn, Nat.mod_eq_of_lt h]
theorem vb_from : ∀ (l : List Bool) (a : Nat), l.foldl (fun a b => 2 * a + b.toNat) a < (a + 1) * 2 ^ l.length
  | [], a => by simp
  | b :: r, a => by
    have h := vb_from r (2 * a + b.toNat)
    have hb : b.toNat ≤ 1 := by cases b <;> decide
    refine Nat.lt_of_lt_of_le h ?_
    rw [List.length_cons, Nat.pow_succ, Nat.mul_comm (2 ^ r.length) 2, ← Nat.mul_assoc]
    exact Nat.mul_le_mul_right _ (by omega)
theorem vb_lt (l : List Bool) : vb l < 2 ^ l.length := by
  have h := vb_from l 0
  rw [Nat.zero_add, Nat.one_mul] at h
  exact h
/-! ### the text of a bit, a sign's number -/
theorem str_bit (n : Nat) : (Str.ofString (toString ((n : Int) % 2)) : Str) = sb [n % 2 == 1] := by
  rcases Nat.mod_two_eq_zero_or_one n with h | h
  · have e : (n : Int) % 2 = 0 := by omega
    rw [e, h]
    decide +kernel
  · have e : (n : Int) % 2 = 1 := by omega
    rw [e, h]
    decide +kernel
theorem int_bit (b : Bool) : PySem.intText? (S [bc b]) = some (b.toNat : Int) := by
  cases b <;> decide +kernel
theorem toNat_lt (b : Bool) : (b.toNat : Int) ≤ 1 := by cases b <;> decide
/-! ### bits and other texts -/
def IsB (z : Str) : Prop := ∃ l, z = sb l
theorem isB_iff (l : List Nat) : IsB (S l) ↔ ∀ c ∈ l, c = 48 ∨ c = 49 := by
  constructor
  · rintro ⟨m, e⟩ c hc
    rw [S_inj e] at hc
    obtain ⟨b, _, rfl⟩ := List.mem_map.mp hc
    cases b
    · exact .inl rfl
    · exact .inr rfl
  · intro h
    refine ⟨l.map fun c => c == 49, ?_⟩
    unfold sb
    congr 1
    rw [List.map_map]
    conv => lhs; rw [← List.map_id l]
    refine List.map_congr_left fun c hc => ?_
    rcases h c hc with rfl | rfl <;> rfl
theorem signs01 : (Str.ofString "01" : Str).cps.toList = [48, 49] := by decide +kernel
theorem all_bits (l : List Nat) : ((List.range l.length).map fun i => decide (l.getD i 0 ∈ [48, 49])).all id = decide (∀ c ∈ l, c = 48 ∨ c = 49) := by
  rw [Bool.eq_iff_iff]
  simp only [List.all_eq_true, List.mem_map, List.mem_range, decide_eq_true_eq, id]
  constructor
  · intro h c hc
    obtain ⟨i, hi, rfl⟩ := List.mem_iff_getElem.mp hc
    have := h _ ⟨i, hi, rfl⟩
    rw [decide_eq_true_eq, List.getD_eq_getElem?_getD, List.getElem?_eq_getElem hi] at this
    simpa using this
  · rintro h b ⟨i, hi, rfl⟩
    rw [decide_eq_true_eq, List.getD_eq_getElem?_getD, List.getElem?_eq_getElem hi]
    simpa using h _ (List.getElem_mem hi)
/-! ### joined -/
theorem join_S : ∀ ls : List (List Nat), Txt.join (S []) (ls.map S) = S ls.flatten := by
  intro ls
  rw [show Txt.join (S []) (ls.map S) = Str.join (S []) (ls.map S) from StrLaws.glued_eq_join _ _]
  induction ls with
  | nil => rfl
  | cons a r ih =>
    cases r with
    | nil => show S a = _; rw [List.flatten_cons, List.flatten_nil, List.append_nil]
    | cons b r =>
      show S a ++ S [] ++ Str.join (S []) ((b :: r).map S) = _
      rw [ih, S_app, S_app, List.append_nil]
      rfl
theorem join_sb (ls : List (List Bool)) : Txt.join (sb []) (ls.map sb) = sb ls.flatten := by
  have e := join_S (ls.map (List.map bc))
  rw [List.map_map] at e
  rw [show (ls.map sb) = ls.map (S ∘ List.map bc) from rfl, show sb [] = S [] from rfl, e]
  unfold sb
  rw [List.map_flatten]
theorem sum_len (ls : List (List Bool)) : (ls.map sb).map Str.length = ls.map List.length := by
  rw [List.map_map]
  exact List.map_congr_left fun l _ => sb_len l
/-! ### packed -/
def pk (ns : List Nat) (w : Nat) : List Bool := (ns.map fun n => bn n w).flatten
theorem pk_len (ns : List Nat) (w : Nat) : (pk ns w).length = ns.length * w := by
  unfold pk
  induction ns with
  | nil => simp
  | cons n r ih => rw [List.map_cons, List.flatten_cons, List.length_append, ih, bn_len, List.length_cons, Nat.succ_mul]; omega
/-- the part of w bits at i -/
def part (l : List Bool) (w i : Nat) : List Bool := (l.take (i * w + w)).drop (i * w)
theorem part_pk : ∀ (ns : List Nat) (w i : Nat) (n : Nat), ns[i]? = some n → part (pk ns w) w i = bn n w
  | [], _, _, _, h => by simp at h
  | m :: r, w, 0, n, h => by
    have e : m = n := by simpa using h
    subst e
    unfold part pk
    rw [List.map_cons, List.flatten_cons, Nat.zero_mul, Nat.zero_add, List.drop_zero, List.take_append_of_le_length (by rw [bn_len]; exact Nat.le_refl _), List.take_of_length_le (by rw [bn_len]; exact Nat.le_refl _)]
  | m :: r, w, i + 1, n, h => by
    have ih := part_pk r w i n (by simpa using h)
    rw [← ih]
    unfold part pk
    rw [List.map_cons, List.flatten_cons]
    have e1 : (i + 1) * w + w = (bn m w).length + (i * w + w) := by rw [bn_len, Nat.succ_mul]; omega
    have e2 : (i + 1) * w = (bn m w).length + i * w := by rw [bn_len, Nat.succ_mul]; omega
    rw [e1, List.take_length_add_append, e2, List.drop_length_add_append]
end Tw

set_option maxHeartbeats 4000000
namespace Tw
open PySem PySem.Spec PyProof.Rows L2 LamX
section
variable {P : Program} {w : World} {K : PySem.W.Frag} {mg : Str → Option Value} {base : Heap} {x qual : Str} {params : Arguments} {body : List Stmt} {scope : Scope} {fd : FuncData} {at_ : He.Defn}
/-- the rule for a def that makes lambdas: its code object is known -/
theorem okC {CX : CXT} {N ps : List Str} {k : Nat} {sp : Sp} (F : FunD K x qual params body scope [] [] (He.fAd K at_) fd) (S : FnScope N ps scope) (len : ∀ vs H Q E, sp vs H Q E → vs.length = ps.length)
    (hbody : ∀ (A : Around) (outer : List Env) (s : Shared) (H : Hp) (vs : List V) (Q : VK) (E : XK), Room k (A.deeper (envOfC qual scope s.heap.objs.size (He.fAd K at_) (.ref (He.cT K at_).1))) → sp vs H Q E →
      ∃ t, PSs (cxOf CX P w K mg base N qual scope (He.fAd K at_) (.ref (He.cT K at_).1) A outer s H E) body t ∧ t { nx := fun _ H' => Q .non H', rt := Q } (L2.start N vs) H) : FnOk P w K mg base CX (k + 1) (He.fAd K at_) fd ps sp := by
  obtain ⟨oc, od, dV, kV, doc, pm, an, cdv, ct, osl, rfl, lk, hcd, _, _⟩ := F.ex
  obtain ⟨c, e⟩ := He.codeIn_ref hcd
  have e2 : cdv = .ref (He.cT K at_).1 := by
    rw [e]
    exact congrArg Value.ref (He.codeOf_eq lk e).symm
  subst e2
  exact fn_of lk hcd S len fun A outer s H vs Q E hr hsp => hbody A outer s H vs Q E hr hsp
end
/-- the empty tables of the start -/
theorem tabs_start {K : PySem.W.Frag} {H : Hp} {tf : List He.Defn} {q : He.Defn → Str} (h : ∀ p ∈ tf.map (He.cT K), H p.2 = some (.tbl #[])) : Tabs (tf.map fun d => ((He.cT K d).2, q d)) H := fun p hp => by
  obtain ⟨d, hd, rfl⟩ := List.mem_map.mp hp
  exact TabS.nil (h _ (List.mem_map_of_mem hd))
end Tw

set_option maxHeartbeats 4000000
namespace Tw
open PySem PySem.Spec PyProof.Rows L2 LamX
/-! ### data compared -/
def Sh (n : Nat) (d : PyData) : Prop := d.canLay0 = true ∧ d.depth ≤ n
section
variable {n m : Nat} {d e : PyData} {ds : List PyData}
theorem Sh.shaped (h : Sh n d) (hn : n ≤ 64) : SeqAt.shaped d = true := by
  unfold SeqAt.shaped
  rw [h.1, Bool.true_and]
  exact decide_eq_true (Nat.le_trans h.2 hn)
theorem Sh.mono (h : Sh n d) (hn : n ≤ m) : Sh m d := ⟨h.1, Nat.le_trans h.2 hn⟩
theorem sh_int {i : Int} : Sh n (.int i) := ⟨rfl, Nat.zero_le _⟩
theorem sh_bl {b : Bool} : Sh n (.bool b) := ⟨rfl, Nat.zero_le _⟩
theorem sh_non : Sh n .none := ⟨rfl, Nat.zero_le _⟩
theorem sh_str {x : Str} (h : PyData.strOk x = true) : Sh n (.str x) := ⟨h, Nat.zero_le _⟩
theorem sh_all : ∀ {ds : List PyData}, (∀ d ∈ ds, Sh n d) → PyData.canLayAll0 ds = true ∧ PyData.depthAll ds ≤ n
  | [], _ => ⟨rfl, Nat.zero_le _⟩
  | d :: ds, h => by
    obtain ⟨h1, h2⟩ := sh_all (ds := ds) fun x hx => h x (List.mem_cons_of_mem _ hx)
    obtain ⟨h3, h4⟩ := h d (List.mem_cons_self ..)
    refine ⟨?_, ?_⟩
    · show (d.canLay0 && PyData.canLayAll0 ds) = true
      rw [h1, h3]
      rfl
    · show max d.depth (PyData.depthAll ds) ≤ n
      omega
theorem sh_lst (h : ∀ d ∈ ds, Sh n d) : Sh (n + 1) (.list ds) := ⟨(sh_all h).1, Nat.succ_le_succ (sh_all h).2⟩
theorem sh_tup (h : ∀ d ∈ ds, Sh n d) : Sh (n + 1) (.tuple ds) := ⟨(sh_all h).1, Nat.succ_le_succ (sh_all h).2⟩
theorem sh_map {α : Type} {g : α → PyData} {l : List α} (h : ∀ x ∈ l, Sh n (g x)) : ∀ d ∈ l.map g, Sh n d := fun d hd => by
  obtain ⟨x, hx, rfl⟩ := List.mem_map.mp hd
  exact h x hx
theorem strOk_S {l : List Nat} (h : ∀ c ∈ l, c < 1114112) : PyData.strOk (S l) = true := by
  unfold PyData.strOk S
  rw [Array.all_eq_true_iff_forall_mem]
  intro c hc
  exact decide_eq_true (h c (by simpa using hc))
theorem strOk_sb (l : List Bool) : PyData.strOk (sb l) = true := strOk_S fun c hc => by
  obtain ⟨b, _, rfl⟩ := List.mem_map.mp hc
  cases b <;> decide
end
section
variable {lo : Prop} {K : PySem.W.Frag} {T : List (Addr × Str)} {H H' : Hp} {Q : VK} {x y : V} {d e : PyData} {n : Nat} {a : Addr}
theorem neD_same (hx : Dp K H x d) (hy : Dp K H y d) (s : Sh 64 d) (q : Q (.bl false) H) : rNeD K x y H Q := by
  refine ⟨d, d, hx, hy, s.shaped (Nat.le_refl _), s.shaped (Nat.le_refl _), ?_⟩
  rw [PySem.SeqAt.eqv_refl d s.1]
  exact q
theorem neC_same {σ : L2.St} (hx : Dp K H x d) (hy : Dp K H y d) (s : Sh 64 d) (q : Q (.bl false) H) : tC y σ H fun y H2 => rNeD K x y H2 Q := neD_same hx hy s q
theorem eqD_same (hx : Dp K H x d) (hy : Dp K H y d) (s : Sh 64 d) (q : Q (.bl true) H) : rEqD K x y H Q := by
  refine ⟨d, d, hx, hy, s.shaped (Nat.le_refl _), s.shaped (Nat.le_refl _), ?_⟩
  rw [PySem.SeqAt.eqv_refl d s.1]
  exact q
theorem neD_diff (hx : Dp K H x d) (hy : Dp K H y e) (sx : Sh 64 d) (sy : Sh 64 e) (h : PyData.eqv d e = false) (q : Q (.bl true) H) : rNeD K x y H Q := by
  refine ⟨d, e, hx, hy, sx.shaped (Nat.le_refl _), sy.shaped (Nat.le_refl _), ?_⟩
  rw [h]
  exact q
theorem eqD_of (hx : Dp K H x d) (hy : Dp K H y e) (sx : Sh 64 d) (sy : Sh 64 e) (q : Q (.bl (PyData.eqv d e)) H) : rEqD K x y H Q := ⟨d, e, hx, hy, sx.shaped (Nat.le_refl _), sy.shaped (Nat.le_refl _), q⟩
theorem neD_of (hx : Dp K H x d) (hy : Dp K H y e) (sx : Sh 64 d) (sy : Sh 64 e) (q : Q (.bl (!PyData.eqv d e)) H) : rNeD K x y H Q := ⟨d, e, hx, hy, sx.shaped (Nat.le_refl _), sy.shaped (Nat.le_refl _), q⟩
theorem dpAll_map {α : Type} {f : α → V} {g : α → PyData} : ∀ {l : List α}, (∀ x ∈ l, Dp K H (f x) (g x)) → DpAll K H (l.map f) (l.map g)
  | [], _ => .nil
  | x :: l, h => .cons (h x (List.mem_cons_self ..)) (dpAll_map fun y hy => h y (List.mem_cons_of_mem _ hy))
theorem dp_lst {α : Type} {f : α → V} {g : α → PyData} {l : List α} (s : SqL K H a (l.map f)) (h : ∀ x ∈ l, Dp K H (f x) (g x)) : Dp K H (.ref a) (.list (l.map g)) := .lst s (dpAll_map h)
theorem dp_ints {l : List Int} (s : SqL K H a (l.map .int)) : Dp K H (.ref a) (.list (l.map .int)) := dp_lst s fun x _ => .int x
theorem dp_strs {l : List Str} (s : SqL K H a (l.map .str)) : Dp K H (.ref a) (.list (l.map .str)) := dp_lst s fun x _ => .str x
theorem sh_ints {l : List Int} : Sh (n + 1) (.list (l.map .int)) := sh_lst (sh_map fun _ _ => sh_int)
theorem sh_strs {l : List Str} (h : ∀ x ∈ l, PyData.strOk x = true) : Sh (n + 1) (.list (l.map .str)) := sh_lst (sh_map fun x hx => sh_str (h x hx))
mutual
theorem Xg.dp (X : Xg lo T H H') : ∀ (d : PyData) (v : V), Dp K H v d → Dp K H' v d
  | .none, _, h => by cases h; exact .non
  | .bool b, _, h => by cases h; exact .bl b
  | .int i, _, h => by cases h; exact .int i
  | .str x, _, h => by cases h; exact .str x
  | .list ds, _, h => by
    cases h with
    | lst s h => exact .lst (X.seq s) (Xg.dpAll X ds _ h)
  | .tuple ds, _, h => by
    cases h with
    | tup s h => exact .tup (X.seqT s) (Xg.dpAll X ds _ h)
  | .dict _, _, h => by cases h
theorem Xg.dpAll (X : Xg lo T H H') : ∀ (ds : List PyData) (vs : List V), DpAll K H vs ds → DpAll K H' vs ds
  | [], _, h => by cases h; exact .nil
  | d :: ds, _, h => by
    cases h with
    | cons h1 h2 => exact .cons (Xg.dp X d _ h1) (Xg.dpAll X ds _ h2)
end
/-- lists of numbers, told alike -/
theorem eqvAll_ints : ∀ (l m : List Int), PyData.eqvAll (l.map .int) (m.map .int) = decide (l = m)
  | [], [] => rfl
  | [], _ :: _ => rfl
  | _ :: _, [] => rfl
  | x :: l, y :: m => by
    show ((x == y) && PyData.eqvAll (l.map .int) (m.map .int)) = _
    rw [eqvAll_ints l m, Bool.eq_iff_iff]
    simp
theorem eqv_ints (l m : List Int) : PyData.eqv (.list (l.map .int)) (.list (m.map .int)) = decide (l = m) := eqvAll_ints l m
end
end Tw

set_option maxHeartbeats 4000000
namespace Tw
open PySem PySem.Spec PyProof.Rows L2 LamX
/-! ### rules, the written part by its own name -/
section
variable {X : Cx} {K : PySem.W.Frag} (eK : X.K = K)
def rLenQ (K : PySem.W.Frag) : List V → Hp → VK → Prop := fun xs H Q => ∃ p ys, xs = [.ref p] ∧ (SqL K H p ys ∨ SqT K H p ys) ∧ Q (.int ys.length) H
def rListQ (K : PySem.W.Frag) : List V → Hp → VK → Prop := fun xs H Q => ∃ p ys, xs = [.ref p] ∧ (SqL K H p ys ∨ SqT K H p ys) ∧ ∀ l, H l = none → Q (.ref l) (upd H l (.lst ys))
include eK
theorem call_len_seqK : CallR X (.builtin "len") (rLenQ K) := by subst eK; exact call_len_seq
theorem call_list_ofK : CallR X (.type "list") (rListQ K) := by subst eK; exact call_list_of
theorem ix_listK : IxR X (rIxL K) := by subst eK; exact ix_list
theorem ix_tupK : IxR X (rIxT K) := by subst eK; exact ix_tup
theorem sl_listK : SlR X (rSlL K) := by subst eK; exact sl_list
theorem op_eqDK (hu : X.A.units + 64 < cLine) : OpR X (compareOp .Eq) (rEqD K) := by subst eK; exact op_eqD hu
theorem op_neDK (hu : X.A.units + 64 < cLine) : OpR X (compareOp .NotEq) (rNeD K) := by subst eK; exact op_neD hu
theorem cr_maxK (hc : X.calm = true) : CallR X (.builtin "max") (rMax K) := by subst eK; exact cr_max hc
theorem cr_minK (hc : X.calm = true) : CallR X (.builtin "min") (rMin K) := by subst eK; exact cr_min hc
theorem cr_allK (hc : X.calm = true) : CallR X (.builtin "all") (rAll K) := by subst eK; exact cr_all hc
theorem cr_sumK (hc : X.calm = true) : CallR X (.builtin "sum") (rSum K) := by subst eK; exact cr_sum hc
theorem mt_indexK : MtR X "list.index" (rIndex K) := by subst eK; exact mt_index
theorem op_in_seqK : OpR X (compareOp .In) (rIn K false) := by subst eK; exact op_in_seq
theorem op_notIn_seqK : OpR X (compareOp .NotIn) (rIn K true) := by subst eK; exact op_notIn_seq
theorem call_isiK : CallR X (.builtin "isinstance") (rIsi K) := by subst eK; exact call_isi
theorem cr_sortedIK : CallR X (.builtin "sorted") (rSortedI K) := by subst eK; exact cr_sortedI
end
section
variable {X : Cx} {K : PySem.W.Frag} {tg : Expr}
theorem pi_listK (eK : X.K = K) {l : Expr} {tl : TE} (hl : PE X l tl) : PI X tg l (iList K tl) := by subst eK; exact pi_list hl
theorem pi_tupK (eK : X.K = K) {l : Expr} {tl : TE} (hl : PE X l tl) : PI X tg l (iTup K tl) := by subst eK; exact pi_tup hl
def rJoin (K : PySem.W.Frag) : V → List V → Hp → VK → Prop := fun x xs H Q => ∃ a p, ∃ ys : List Str, x = .str a ∧ xs = [.ref p] ∧ (SqL K H p (ys.map V.str) ∨ SqT K H p (ys.map V.str)) ∧ (ys.map (·.length)).sum + ys.length * a.length ≤ 16777216 ∧ Q (.str (Txt.join a ys)) H
theorem pe_joinK (eK : X.K = K) {o e : Expr} {to te : TE} {apos pos : Pos} (ho : PE X o to) (he : PE X e te) (hs : starEach [e] X.env = [(false, eval e X.env)]) (hbase : attributeBase o "join" X.env (eval o X.env) = eval o X.env) (hline : (apos.endLine == pos.line) = true) :
    PE X (.Call (.Attribute o "join" apos) [e] [] pos) (tM1 (rJoin K) to te) := by subst eK; exact pe_join ho he hs hbase hline
theorem pi_enumK (eK : X.K = K) {e : Expr} {ta : TA} {p pos tpos : Pos} {elts : List Expr} {kk : Nat} (hg : Gl X "enumerate") (hm : X.mg "enumerate" = none) (ha : PA X [e] ta) (hs : starEach [e] X.env = [(false, eval e X.env)]) :
    PI X (.Tuple elts kk tpos) (.Call (.Name "enumerate" p) [e] [] pos) (iEnum K ta) := by subst eK; exact pi_enum hg hm ha hs
theorem pi_zipK (eK : X.K = K) {e e2 : Expr} {ta : TA} {p pos tpos : Pos} {elts : List Expr} {kk : Nat} (hg : Gl X "zip") (hm : X.mg "zip" = none) (ha : PA X [e, e2] ta)
    (hs : starEach [e, e2] X.env = (false, eval e X.env) :: starEach [e2] X.env) (hpl : (backTo pos (starEach [e2] X.env)).any (·.1) = false) :
    PI X (.Tuple elts kk tpos) (.Call (.Name "zip" p) [e, e2] [] pos) (iZip K ta) := by subst eK; exact pi_zip hg hm ha hs hpl
theorem pi_reversedK (eK : X.K = K) {e : Expr} {ta : TA} {p pos : Pos} (hg : Gl X "reversed") (hm : X.mg "reversed" = none) (ha : PA X [e] ta) (hs : starEach [e] X.env = [(false, eval e X.env)]) : PI X tg (.Call (.Name "reversed" p) [e] [] pos) (iRev K ta) := by subst eK; exact pi_reversed hg hm ha hs
theorem pg_tupK (eK : X.K = K) {es : List Expr} {k : Nat} {t : TGs} {n : Nat} {pos : Pos} (hc : X.calm = true) (h : PGs X es t)
    (hn : (assignEach es X.env).length = n) (hst : (assignEach es X.env).findIdx? (·.1) = none) : PG X (.Tuple es k pos) (gTup K n t) := by subst eK; exact pg_tup hc h hn hst
theorem pg_lstK (eK : X.K = K) {es : List Expr} {k : Nat} {t : TGs} {n : Nat} {pos : Pos} (hc : X.calm = true) (h : PGs X es t)
    (hn : (assignEach es X.env).length = n) (hst : (assignEach es X.env).findIdx? (·.1) = none) : PG X (.Tuple es k pos) (gLst K n t) := by subst eK; exact pg_lst hc h hn hst
theorem pe_fldK (eK : X.K = K) {e : Expr} {ta : TE} {f : Str} {pos : Pos} (he : PE X e ta) (hb : attributeBase e f X.env (eval e X.env) = eval e X.env) : PE X (.Attribute e f pos) (tFld K ta f) := by subst eK; exact pe_fld he hb
theorem pe_bm0K (eK : X.K = K) {o : Expr} {to : TE} {name : Str} {apos cpos : Pos} {T id : String} {r : V → List V → Hp → VK → Prop} (pa : PlainAttrs T) (slot : Slot T name id) (hty : typeOf (.builtin id) = pure (.type "method_descriptor")) (hm : MtR X id r) (ho : PE X o to)
    (hbase : attributeBase o name X.env (eval o X.env) = eval o X.env) (hline : (apos.endLine == cpos.line) = true) : PE X (.Call (.Attribute o name apos) [] [] cpos) (tBM0 K T r to) := by subst eK; exact pe_bm0 pa slot hty hm ho hbase hline
theorem pe_bmK (eK : X.K = K) {o e : Expr} {es : List Expr} {to : TE} {t : TA} {name : Str} {apos cpos : Pos} {T id : String} {r : V → List V → Hp → VK → Prop} (pa : PlainAttrs T) (slot : Slot T name id) (hty : typeOf (.builtin id) = pure (.type "method_descriptor")) (hm : MtR X id r) (ho : PE X o to) (ha : PA X (e :: es) t)
    (hbase : attributeBase o name X.env (eval o X.env) = eval o X.env)
    (hfew : ((backTo cpos (starEach (e :: es) X.env)).all (fun x => !x.1) && (backToKw cpos (keywordEach [] X.env)).all (fun x => x.1.isSome)
      && decide ((e :: es).length + ([] : List Keyword).length + (if ([] : List Keyword).isEmpty then 0 else 1) < 30)) = true)
    (hline : (apos.endLine == cpos.line) = true) (hs : starEach (e :: es) X.env = (false, eval e X.env) :: starEach es X.env) (hplain : (backTo cpos (starEach es X.env)).any (·.1) = false) :
    PE X (.Call (.Attribute o name apos) (e :: es) [] cpos) (tBM K T r to t) := by subst eK; exact pe_bm pa slot hty hm ho ha hbase hfew hline hs hplain
end
/-- two ways to one rest -/
theorem via {P R : Hp → Prop} {G : Prop} (main : (∀ H', P H' → R H') → G) (rest : ∀ H', P H' → R H') : G := main rest
/-! ### slices of lists -/
theorem cut_take (l : List V) (j : Nat) : cutV l none (some (j : Int)) = l.take j := by
  unfold cutV
  rw [HT.sIx_nat]
  show (l.drop 0).take (min j l.length - 0) = _
  rw [List.drop_zero, Nat.sub_zero]
  by_cases hj : j ≤ l.length
  · rw [Nat.min_eq_left hj]
  · rw [Nat.min_eq_right (by omega), List.take_of_length_le (Nat.le_refl _), List.take_of_length_le (by omega)]
theorem cut_nat (l : List V) (i j : Nat) : cutV l (some (i : Int)) (some (j : Int)) = (l.take j).drop i := by
  unfold cutV
  rw [HT.sIx_nat, HT.sIx_nat, List.drop_take]
  by_cases hi : i ≤ l.length
  · rw [Nat.min_eq_left hi]
    by_cases hj : j ≤ l.length
    · rw [Nat.min_eq_left hj]
    · rw [Nat.min_eq_right (by omega), List.take_of_length_le (by rw [List.length_drop]; omega), List.take_of_length_le (by rw [List.length_drop]; omega)]
  · rw [List.drop_eq_nil_of_le (by omega : l.length ≤ min i l.length), List.drop_eq_nil_of_le (by omega : l.length ≤ i)]
    simp
theorem cut_drop (l : List V) (i : Nat) : cutV l (some (i : Int)) none = l.drop i := by
  unfold cutV
  rw [HT.sIx_nat]
  show (l.drop (min i l.length)).take (l.length - min i l.length) = _
  by_cases hi : i ≤ l.length
  · rw [Nat.min_eq_left hi, List.take_of_length_le (by rw [List.length_drop]; omega)]
  · rw [List.drop_eq_nil_of_le (by omega : l.length ≤ min i l.length), List.drop_eq_nil_of_le (by omega : l.length ≤ i)]
    simp
end Tw

set_option maxHeartbeats 4000000
namespace Tw
open PySem PySem.Spec PyProof.Rows L2 LamX
/-! ### drawn numbers -/
abbrev pA : Int := 340282366920938463463374607431768211507
abbrev pB : Int := 340282366920938463463374607431768211297
abbrev pC : Int := 18446744073709551557
def dr1 (c k : Int) : Int := (c * 6364136223846793005 + (k + 1) * 1442695040888963407) % pA
def dr2 (c k : Int) : Int := dr1 c k * dr1 c k % pB
def dr (c k : Int) : Int := (dr2 c k % pC + 1) * (dr2 c k / pC + 1) * dr2 c k % pA
theorem dr1_rng (c k : Int) : 0 ≤ dr1 c k ∧ dr1 c k < pA := ⟨Int.emod_nonneg _ (by decide), Int.emod_lt_of_pos _ (by decide)⟩
theorem dr2_rng (c k : Int) : 0 ≤ dr2 c k ∧ dr2 c k < pB := ⟨Int.emod_nonneg _ (by decide), Int.emod_lt_of_pos _ (by decide)⟩
theorem dr_rng (c k : Int) : 0 ≤ dr c k ∧ dr c k < pA := ⟨Int.emod_nonneg _ (by decide), Int.emod_lt_of_pos _ (by decide)⟩
theorem dr1_abs (c k : Int) : (dr1 c k).natAbs < 2 ^ 129 := by have := dr1_rng c k; simp only [pA] at this; omega
theorem dr2_abs (c k : Int) : (dr2 c k).natAbs < 2 ^ 129 := by have := dr2_rng c k; simp only [pB] at this; omega
theorem dr2_a (c k : Int) : (dr2 c k % pC + 1).natAbs < 2 ^ 65 := by
  have h := Int.emod_nonneg (dr2 c k) (show pC ≠ 0 by decide)
  have h2 := Int.emod_lt_of_pos (dr2 c k) (show 0 < pC by decide)
  simp only [pC] at h h2 ⊢
  omega
theorem dr2_b (c k : Int) : (dr2 c k / pC + 1).natAbs < 2 ^ 129 := by
  have := dr2_rng c k
  have h : 0 ≤ dr2 c k / pC := Int.ediv_nonneg this.1 (by decide)
  have h2 : dr2 c k / pC ≤ dr2 c k := Int.ediv_le_self _ this.1
  simp only [pB] at this
  omega
/-- the cell that a turn looks at -/
def cellV (ns : List Int) (k : Nat) : Int := if ns = [] then (k : Int) * 7919 else ns.getD (k % ns.length) 0 + ((k / ns.length : Nat) : Int) * 104729
def mosts : List Int := [0, 1, 2, 7, 8, 255, 256, 10 ^ 9, 2 ^ 40 - 1]
theorem mosts_le (j : Nat) : 0 ≤ mosts.getD j 0 ∧ mosts.getD j 0 < 1099511627776 := by
  by_cases h : j < 9
  · have : ∀ i, i < 9 → 0 ≤ mosts.getD i 0 ∧ mosts.getD i 0 < 1099511627776 := by decide +kernel
    exact this j h
  · rw [List.getD_eq_getElem?_getD, List.getElem?_eq_none (show mosts.length ≤ j from Nat.le_of_not_lt h)]
    decide
end Tw

set_option maxHeartbeats 4000000
namespace Tw
open PySem PySem.Spec PyProof.Rows L2 LamX
/-! ### a text so many times -/
def rRepS : R2 := fun x y H Q => ∃ z k, x = .str z ∧ y = .int k ∧ MulOk z k ∧ Q (.str (Txt.mul z k)) H
theorem op_repS {X : Cx} : OpR X (binaryOp .Mult) rRepS := by
  intro pins s σ H x y v u Q I rx ry h
  obtain ⟨z, k, rfl, rfl, hok, q⟩ := h
  obtain ⟨t, rfl⟩ := rx
  obtain ⟨t', rfl⟩ := ry
  exact SB.mul hok fun t' tk => ⟨.str (Txt.mul z k), H, I.tok _, ⟨_, rfl⟩, q⟩
theorem fold_reps : ∀ (n : Nat) (c : Nat) (a : List Nat), (List.replicate n (#[c] : Array Nat)).foldl (· ++ ·) a.toArray = (a ++ List.replicate n c).toArray
  | 0, c, a => by simp
  | n + 1, c, a => by
    rw [List.replicate_succ, List.foldl_cons]
    have e : a.toArray ++ (#[c] : Array Nat) = (a ++ [c]).toArray := by simp
    rw [e, fold_reps n c, List.append_assoc]
    rfl
theorem mul_S (c : Nat) (k : Int) : Txt.mul (S [c]) k = S (List.replicate k.toNat c) := by
  unfold Txt.mul
  by_cases h : k < 1
  · rw [if_pos h, show k.toNat = 0 by omega]
    rfl
  · rw [if_neg h]
    by_cases h1 : k = 1
    · subst h1
      rfl
    · have hf : (k == 1 || (S [c]).length == 0) = false := by
        rw [Bool.or_eq_false_iff]
        exact ⟨by simpa using h1, rfl⟩
      rw [hf]
      show (⟨_⟩ : Str) = S _
      have := fold_reps k.toNat c []
      unfold S
      rw [List.nil_append] at this
      rw [← this]
theorem mulOk_S {c : Nat} {k : Int} (h1 : -1000000 ≤ k) (h2 : k ≤ 1000000) : MulOk (S [c]) k := by
  refine ⟨?_, fun h3 _ => ?_, fun h3 _ => ?_⟩
  · rw [Bool.or_eq_false_iff]
    exact ⟨decide_eq_false (by omega), decide_eq_false (by omega)⟩
  · have h5 : (1 : Int) ≤ (2 ^ 63 - 1) / k := by
      refine (Int.le_ediv_iff_mul_le (by omega)).mpr ?_
      omega
    show ¬ ((1 : Int) > _)
    omega
  · show decide (1 * k.toNat > sizeLine) = false
    refine decide_eq_false ?_
    have : sizeLine = 16777216 := by decide
    omega
theorem fold_repsA : ∀ (n : Nat) (c a : List Nat), (List.replicate n (c.toArray : Array Nat)).foldl (· ++ ·) a.toArray = (a ++ (List.replicate n c).flatten).toArray
  | 0, c, a => by simp
  | n + 1, c, a => by
    rw [List.replicate_succ, List.foldl_cons]
    have e : a.toArray ++ c.toArray = (a ++ c).toArray := by simp
    rw [e, fold_repsA n c, List.append_assoc]
    rfl
theorem mul_sb (l : List Bool) (k : Nat) (h2 : 2 ≤ k) (hl : l ≠ []) : Txt.mul (sb l) (k : Int) = sb (List.replicate k l).flatten := by
  unfold Txt.mul
  rw [if_neg (by omega)]
  have hlen : (sb l).length ≠ 0 := by
    rw [sb_len]
    exact fun z => hl (List.eq_nil_of_length_eq_zero z)
  have hf : ((k : Int) == 1 || (sb l).length == 0) = false := by
    rw [Bool.or_eq_false_iff]
    refine ⟨?_, by simpa using hlen⟩
    rw [beq_eq_false_iff_ne]
    omega
  rw [hf]
  show (⟨_⟩ : Str) = sb _
  have h3 := fold_repsA k (l.map bc) []
  unfold sb S
  rw [List.nil_append] at h3
  rw [List.map_flatten, List.map_replicate, ← h3]
  rfl
theorem mulOk_sb {l : List Bool} {k : Nat} (h1 : l.length ≤ 1000) (h2 : k ≤ 10000) : MulOk (sb l) (k : Int) := by
  refine ⟨?_, fun h3 _ => ?_, fun h3 _ => ?_⟩
  · rw [Bool.or_eq_false_iff]
    exact ⟨decide_eq_false (by omega), decide_eq_false (by omega)⟩
  · have h5 : (1000 : Int) ≤ (2 ^ 63 - 1) / (k : Int) := by
      refine (Int.le_ediv_iff_mul_le (by omega)).mpr ?_
      omega
    rw [sb_len]
    omega
  · show decide ((sb l).length * ((k : Int)).toNat > sizeLine) = false
    refine decide_eq_false ?_
    rw [sb_len, Int.toNat_natCast]
    have : sizeLine = 16777216 := by decide
    have := Nat.mul_le_mul h1 h2
    omega
theorem cutS_take (l : List Nat) (j : Nat) : cutS (S l) none (some (j : Int)) = S (l.take j) := by
  unfold cutS
  rw [HT.sIx_nat, S_len]
  show (⟨_⟩ : Str) = ⟨_⟩
  congr 2
  show (l.drop 0).take (min j l.length - 0) = _
  rw [List.drop_zero, Nat.sub_zero]
  by_cases hj : j ≤ l.length
  · rw [Nat.min_eq_left hj]
  · rw [Nat.min_eq_right (by omega), List.take_of_length_le (Nat.le_refl _), List.take_of_length_le (by omega)]
end Tw

set_option maxHeartbeats 4000000
namespace Tw
open PySem PySem.Spec PyProof.Rows L2 LamX
/-! ### enumerate(text) -/
/-- the text's signs, each in a new pair with its place -/
def Ites (x : Str) : It :=
  ⟨fun i _ => i < x.cps.size, fun i H v H' => ∃ T c, v = .ref T ∧ H T = none ∧ H' = upd H T (.tup [.int (i : Nat), .str ⟨#[c]⟩]) ∧ x.cps[i]? = some c, fun i _ => i = x.cps.size⟩
theorem draws_text {P : Program} {w : World} {A : Around} (hh : A.handled = none) (it : Addr) (x : Str) (t : Tok) : Draws P w A it [it] x.cps.size (fun i v => ∃ c u, x.cps[i]? = some c ∧ v = .str ⟨#[c]⟩ u) (fun i h => h.IsStrIter it (strIterType x) x t i) := by
  unfold strIterType
  cases x.cps.all (· < 128)
  · exact Draws.strWide hh it x t
  · exact Draws.strAscii hh it x t
theorem turn_enumS {P : Program} {w : World} {K : PySem.W.Frag} {elts : List Expr} {kk : Nat} {tpos : Pos} (x : Str) (t : Tok) (e it : Addr) :
    Turn P w K (.Tuple elts kk tpos) (Ites x) [e, it] e (fun i h => (∃ old, IsEnum h e it ((i : Nat) : Int) old) ∧ h.IsStrIter it (strIterType x) x t i ∧ e ≠ it) where
  mem := by simp
  obj := fun i h st b hb => by
    obtain ⟨⟨old, he⟩, ⟨o, ho, hc, hd⟩, _⟩ := st
    have e' : b = e ∨ b = it := by simpa using hb
    rcases e' with z | z
    · rw [z]; exact ⟨_, he, fun v q => nomatch q⟩
    · rw [z]; exact ⟨o, ho, fun v q => by rw [hd] at q; cases q⟩
  keep := fun i h h' st k => let ⟨⟨old, he⟩, ⟨o, ho, r⟩, hne⟩ := st; ⟨⟨old, k e (by simp) _ he⟩, ⟨o, k it (by simp) o ho, r⟩, hne⟩
  item := by
    intro X hP hw hK hc i pins s σ H E I hf st hg
    subst hP hw hK
    obtain ⟨⟨old, he⟩, hit, hne⟩ := st
    have hel : e < s.heap.objs.size := Heap.lt_size he
    have hil : it < s.heap.objs.size := by obtain ⟨_, q, _⟩ := hit; exact Heap.lt_size q
    have D := draws_text (P := X.prog) (w := X.w) (A := X.A.in1) (I.ok.hd hc) it x t
    refine wpAny_pyNext_enum_itemD D he hit hg hne (by simpa using hne) fun u h' tk hu ho hit' hT hsz hk => ?_
    obtain ⟨c, tu, hcx, rfl⟩ := hu
    refine ⟨_, rfl, wpAny_letOwnedTupleGo_enum (s := { s with heap := h', toks := tk + 1 }) ho fun h'' he' sb => ?_⟩
    have hT2 : h''.get? s.heap.objs.size = some { cls := .type "tuple", data := .seq #[.int i tk, .str ⟨#[c]⟩ tu] } := (sb.2 _ (Nat.ne_of_gt hel)).trans hT
    have new : ObjOk X.prog X.w (upd H s.heap.objs.size (.tup [.int (i : Nat), .str ⟨#[c]⟩])) h'' s.heap.objs.size (.tup [.int (i : Nat), .str ⟨#[c]⟩]) :=
      ⟨by show 2 ≤ sizeLine; decide, [.int i tk, .str ⟨#[c]⟩ tu], .cons ⟨_, rfl⟩ (.cons ⟨_, rfl⟩ .nil), ⟨_, hT2, rfl, _, rfl⟩⟩
    have I1 : Inv X pins σ (upd H s.heap.objs.size (.tup [.int (i : Nat), .str ⟨#[c]⟩])) { s with heap := h'', toks := tk + 1 } :=
      I.turnedNew (ch := [e, it]) (fun b ob hb q => (sb.2 b (fun z => hb (by simp [z]))).trans (hk b ob (fun z => hb (by simp [z])) (fun z => hb (by simp [z])) q)) hf (Nat.le_refl _) new
    refine ⟨.ref s.heap.objs.size, _, I1, rfl, ⟨_, c, rfl, I.hok.fresh (Nat.le_refl _), rfl, hcx⟩, ⟨⟨.str ⟨#[c]⟩ tu, ?_⟩, ?_, hne⟩, fun b hb => ?_⟩
    · have e1 : ((i + 1 : Nat) : Int) = (i : Int) + 1 := by omega
      rw [e1]; exact he'
    · obtain ⟨o, q, r⟩ := hit'
      exact ⟨o, (sb.2 it (Ne.symm hne)).trans q, r⟩
    · have hb' : b < s.heap.objs.size := by
        have e' : b = e ∨ b = it := by simpa using hb
        rcases e' with z | z
        · rw [z]; exact hel
        · rw [z]; exact hil
      rw [upd_ne (Nat.ne_of_lt hb')]
      exact (hf b hb).1
  done := by
    intro X hP hw hK hc i pins s σ H E I hf st hg
    subst hP hw hK
    obtain ⟨⟨old, he⟩, hit, hne⟩ := st
    obtain ⟨f0, f1, f2, f3, f4, f5⟩ := hf it (by simp)
    have hg : i = x.cps.size := hg
    subst hg
    have D := draws_text (P := X.prog) (w := X.w) (A := X.A.in1) (I.ok.hd hc) it x t
    exact wpAny_pyNext_enum_endD D he hit fun h' eb => ⟨rfl, I.turned (t' := s.toks) (fun b o hb q => eb b o hb q) f0 f1 f3 f4 f5⟩
  self := fun A i s Q E st h => let ⟨⟨_, he⟩, _⟩ := st; wpAny_pyIter_enum he h
def iEnumS (ta : TA) : TI := fun σ H R => ta σ H fun vs H1 => ∃ x, vs = [.str x] ∧ R (Ites x) H1
theorem pi_enumSK {X : Cx} {K : PySem.W.Frag} (eK : X.K = K) {e : Expr} {ta : TA} {p pos tpos : Pos} {elts : List Expr} {kk : Nat} (hg : Gl X "enumerate") (hm : X.mg "enumerate" = none) (ha : PA X [e] ta) (hs : starEach [e] X.env = [(false, eval e X.env)]) :
    PI X (.Tuple elts kk tpos) (.Call (.Name "enumerate" p) [e] [] pos) (iEnumS ta) := by
  refine ⟨fun pins s σ H R I h => ?_⟩
  refine Call_ (ld_blt I hg hm boot_enumerate (PyProof.Rows.callWith_type1 (thn (ha.run pos pins s σ H _ I h) fun us s1 ⟨vs, H1, I1, r1, q1⟩ => ?_) hs rfl))
  obtain ⟨x, ex, q⟩ := q1
  subst ex
  cases r1 with
  | cons r rr =>
    cases rr
    obtain ⟨t, rfl⟩ := r
    refine call_enumerate_str fun h' he hit hsz hk => wpAny_pyIter_enum he ?_
    have I2 : Inv X pins σ H1 { s1 with heap := h' } := I1.kept (t' := s1.toks) hk
    refine ⟨s1.heap.objs.size + 1, [s1.heap.objs.size + 1, s1.heap.objs.size], _, _, H1, rfl, I2, turn_enumS x t (s1.heap.objs.size + 1) s1.heap.objs.size, ⟨⟨.none, he⟩, hit, Nat.succ_ne_self _⟩, fun b hb => ?_, q⟩
    have e' : b = s1.heap.objs.size + 1 ∨ b = s1.heap.objs.size := by simpa using hb
    have hle : s1.heap.objs.size ≤ b := by
      rcases e' with z | z
      · rw [z]; exact Nat.le_add_right _ _
      · rw [z]; exact Nat.le_refl _
    exact I1.fpOk hle (I1.hok.fresh hle)
theorem w_enumS {l : List Nat} : Walk (Ites (S l)) l.length (fun _ => True) (fun i H x H' => ∃ (T : Addr) (c : Nat), x = .ref T ∧ H T = none ∧ H' = upd H T (.tup [.int (i : Nat), .str (S [c])]) ∧ l[i]? = some c) := by
  have e : (S l).cps.size = l.length := S_len l
  refine ⟨fun i _ hi _ => by show i < (S l).cps.size; omega, fun _ _ => e.symm, fun i H v H' _ _ y => ?_⟩
  obtain ⟨T, c, h1, h2, h3, h4⟩ := y
  exact ⟨T, c, h1, h2, h3, by simpa [S] using h4⟩
/-! ### comprehensions whose items are new objects -/
section
variable {lo : Prop} {T : List (Addr × Str)} {J : It} {n : Nat} {G : Hp → Prop} {y : Nat → V → Prop} {te : TE} {j : Nat} {σ : L2.St} {H1 : Hp} {D : Addr} {Qd : Hp → Prop}
theorem lcV (P : Nat → List V → Hp → Prop) (w : Walk J n G (Yy y)) (hD : H1 D = none) (hn : n ≤ 1000000) (hG : ∀ H', Xg lo T H1 H' → G H') (h0 : P 0 [] (upd H1 D (.lst [])))
    (he : ∀ i x H' vs, i < n → y i x → Xg lo T H1 H' → P i vs H' → H' D = some (.lst vs) → ∀ Q : VK, (∀ v H4, Xg lo T H' H4 → P (i + 1) (vs ++ [v]) (upd H4 D (.lst (vs ++ [v]))) → Q v H4) → te ((wipe σ [j]).set j (some x)) H' Q)
    (hd : ∀ H' vs, Xg lo T H1 H' → P n vs H' → vs.length = n → H' D = some (.lst vs) → Qd H') :
    ∃ W : Nat → Nat → Hp → Prop, (∃ m, W 0 m (upd H1 D (.lst []))) ∧ ∀ i m H, W i m H →
      (J.stop i H ∧ Qd H) ∨ (J.go i H ∧ ∃ Nx : Hp → Prop, (∀ H', Nx H' → ∃ m', m' < m ∧ W (i + 1) m' H') ∧ ∀ x H', J.yld i H x H' → gName j x (wipe σ [j]) H' fun σ2 H2 => wipe σ2 [j] = wipe σ [j] ∧ tYes σ2 H2 fun b H3 =>
        if b = true then te σ2 H3 fun y H4 => ∃ acc, H4 D = some (.lst acc) ∧ acc.length < sizeLine ∧ Nx (upd H4 D (.lst (acc ++ [y]))) else Nx H3) := by
  refine lc_it w (fun i H => Xg lo T H1 H ∧ ∃ vs : List V, P i vs H ∧ vs.length = i ∧ H D = some (.lst vs)) ⟨Xg.new hD, [], h0, rfl, upd_same ..⟩ (fun i H _ p => hG H p.1) (fun i x H H' hi p hy => ?_) fun H p => by
    obtain ⟨x1, vs, h1, h2, h3⟩ := p
    exact hd H vs x1 h1 h2 h3
  obtain ⟨eH, hy⟩ := hy
  subst eH
  obtain ⟨x1, vs, h1, h2, h3⟩ := p
  refine ⟨wipe1 σ j _, ?_⟩
  unfold tYes
  refine iteT ?_
  refine he i x _ vs hi hy x1 h1 h3 _ fun v H5 x5 p5 => ?_
  have e5 := x5.lst h3
  refine ⟨_, e5, ?_, (x1.trans x5).mut (.of hD) e5, vs ++ [v], p5, by rw [List.length_append, h2]; rfl, upd_same ..⟩
  rw [h2]
  exact Nat.lt_of_lt_of_le hi (Nat.le_trans hn (by decide))
end
end Tw

set_option maxHeartbeats 4000000
namespace Tw
open PySem PySem.Spec PyProof.Rows L2 LamX
/-! ### trees as nested lists; what is no list -/
inductive Ob where
  | no
  | li (cs : List Ob)
/-- the value is no list -/
inductive NoL (H : Hp) : V → Prop where
  | non : NoL H .non
  | int (i : Int) : NoL H (.int i)
  | str (z : Str) : NoL H (.str z)
  | tup {a : Addr} {xs : List V} (h : H a = some (.tup xs)) : NoL H (.ref a)
  | dK {a : Addr} {kvs : List (L2.Key × V)} (h : H a = some (.dK kvs)) : NoL H (.ref a)
mutual
inductive ObAt (K : PySem.W.Frag) (H : Hp) : V → Ob → Prop where
  | no {v : V} : NoL H v → ObAt K H v .no
  | li {a : Addr} {vs : List V} {cs : List Ob} : H a = some (.lst vs) → ObsAt K H vs cs → ObAt K H (.ref a) (.li cs)
inductive ObsAt (K : PySem.W.Frag) (H : Hp) : List V → List Ob → Prop where
  | nil : ObsAt K H [] []
  | cons {v : V} {vs : List V} {c : Ob} {cs : List Ob} : ObAt K H v c → ObsAt K H vs cs → ObsAt K H (v :: vs) (c :: cs)
end
section
variable {lo : Prop} {T : List (Addr × Str)} {K : PySem.W.Frag} {H H' : Hp}
theorem NoL.xt {v : V} (h : NoL H v) (x : Xg lo T H H') : NoL H' v := by
  cases h with
  | non => exact .non
  | int i => exact .int i
  | str z => exact .str z
  | tup h => exact .tup (x.fix h (fun _ _ _ z => by cases z) fun ps z => by cases z)
  | dK h => exact .dK (x.fix h (fun _ _ _ z => by cases z) fun ps z => by cases z)
mutual
theorem Xg.ob (x : Xg lo T H H') : ∀ (o : Ob) (v : V), ObAt K H v o → ObAt K H' v o
  | .no, _, h => by
    cases h with
    | no h => exact .no (h.xt x)
  | .li cs, _, h => by
    cases h with
    | li h hs => exact .li (x.lst h) (Xg.obs x cs _ hs)
theorem Xg.obs (x : Xg lo T H H') : ∀ (cs : List Ob) (vs : List V), ObsAt K H vs cs → ObsAt K H' vs cs
  | [], _, h => by cases h; exact .nil
  | c :: cs, _, h => by
    cases h with
    | cons h1 h2 => exact .cons (Xg.ob x c _ h1) (Xg.obs x cs _ h2)
end
theorem ObsAt.len : ∀ {vs : List V} {cs : List Ob}, ObsAt K H vs cs → vs.length = cs.length
  | _, [], h => by cases h; rfl
  | _, c :: cs, h => by
    cases h with
    | cons h1 h2 => exact congrArg Nat.succ h2.len
theorem ObsAt.get : ∀ {vs : List V} {cs : List Ob} {i : Nat} {v : V}, ObsAt K H vs cs → vs[i]? = some v → ∃ c, cs[i]? = some c ∧ ObAt K H v c
  | _, [], _, _, h, e => by cases h; cases e
  | _, c :: cs, 0, v, h, e => by
    cases h with
    | cons h1 h2 =>
      cases e
      exact ⟨c, rfl, h1⟩
  | _, c :: cs, i + 1, v, h, e => by
    cases h with
    | cons h1 h2 =>
      obtain ⟨c', e', h'⟩ := ObsAt.get (i := i) h2 (by simpa using e)
      exact ⟨c', by simpa using e', h'⟩
end
mutual
def ht : Ob → Nat
  | .no => 0
  | .li cs => htL cs + 1
def htL : List Ob → Nat
  | [] => 0
  | c :: cs => max (ht c) (htL cs)
end
theorem ht_mem {c : Ob} : ∀ {cs : List Ob}, c ∈ cs → ht c ≤ htL cs
  | [], h => by cases h
  | d :: cs, h => by
    show ht c ≤ max (ht d) (htL cs)
    rcases List.mem_cons.mp h with rfl | h
    · omega
    · have := ht_mem h
      omega
theorem flat_one : ∀ s : List Bool, (s.map fun b => [b]).flatten = s
  | [] => rfl
  | b :: r => by
    rw [List.map_cons, List.flatten_cons, flat_one r]
    rfl
/-! ### the bits of a tree -/
mutual
def sgn : Ob → Nat → Option (List Bool)
  | .no, _ => none
  | .li cs, d => if 200 < d then none else (sgnL cs (d + 1) [true]).map (· ++ [false])
def sgnL : List Ob → Nat → List Bool → Option (List Bool)
  | [], _, acc => some acc
  | c :: cs, d, acc => (sgn c d).bind fun s => if 2000 < (acc ++ s).length then none else sgnL cs d (acc ++ s)
end
theorem sgnL_len : ∀ {cs : List Ob} {d : Nat} {acc s : List Bool}, acc.length ≤ 2000 → sgnL cs d acc = some s → s.length ≤ 2000
  | [], d, acc, s, h, e => by
    have e : some acc = some s := e
    rw [← Option.some.inj e]
    exact h
  | c :: cs, d, acc, s, h, e => by
    have e : ((sgn c d).bind fun s => if 2000 < (acc ++ s).length then none else sgnL cs d (acc ++ s)) = some s := e
    cases hc : sgn c d with
    | none =>
      rw [hc] at e
      cases e
    | some r =>
      rw [hc] at e
      have e : (if 2000 < (acc ++ r).length then none else sgnL cs d (acc ++ r)) = some s := e
      by_cases hl : 2000 < (acc ++ r).length
      · rw [if_pos hl] at e
        cases e
      · rw [if_neg hl] at e
        exact sgnL_len (by omega) e
theorem sgn_len {o : Ob} {d : Nat} {s : List Bool} (h : sgn o d = some s) : s.length ≤ 2001 := by
  cases o with
  | no => cases h
  | li cs =>
    have e : (if 200 < d then none else (sgnL cs (d + 1) [true]).map (· ++ [false])) = some s := h
    by_cases hd : 200 < d
    · rw [if_pos hd] at e
      cases e
    · rw [if_neg hd] at e
      obtain ⟨r, h1, h2⟩ := Option.map_eq_some_iff.mp e
      have := sgnL_len (by decide) h1
      rw [← h2, List.length_append]
      show _ + 1 ≤ 2001
      omega
mutual
/-- a tree's bits, without a bound -/
def btT : Ob → List Bool
  | .no => []
  | .li cs => true :: (btL cs ++ [false])
def btL : List Ob → List Bool
  | [] => []
  | c :: cs => btT c ++ btL cs
end
mutual
/-- trees alone -/
def isT : Ob → Bool
  | .no => false
  | .li cs => isTL cs
def isTL : List Ob → Bool
  | [] => true
  | c :: cs => isT c && isTL cs
end
mutual
theorem sgn_of : ∀ (o : Ob) (d : Nat), isT o = true → d + ht o ≤ 201 → (btT o).length ≤ 2000 → sgn o d = some (btT o)
  | .no, _, h, _, _ => by cases h
  | .li cs, d, h, h2, h3 => by
    have h2 : d + (htL cs + 1) ≤ 201 := h2
    have h3 : (true :: (btL cs ++ [false])).length ≤ 2000 := h3
    rw [List.length_cons, List.length_append] at h3
    show (if 200 < d then none else (sgnL cs (d + 1) [true]).map (· ++ [false])) = _
    rw [if_neg (by omega), sgnL_of cs (d + 1) [true] h (by omega) (by rw [List.length_append]; show 1 + _ ≤ 2000; omega)]
    rfl
theorem sgnL_of : ∀ (cs : List Ob) (d : Nat) (acc : List Bool), isTL cs = true → d + htL cs ≤ 201 → (acc ++ btL cs).length ≤ 2000 → sgnL cs d acc = some (acc ++ btL cs)
  | [], d, acc, _, _, _ => by
    show some acc = some (acc ++ [])
    rw [List.append_nil]
  | c :: cs, d, acc, h, h2, h3 => by
    have h : (isT c && isTL cs) = true := h
    rw [Bool.and_eq_true] at h
    have h2 : d + max (ht c) (htL cs) ≤ 201 := h2
    have h3 : (acc ++ (btT c ++ btL cs)).length ≤ 2000 := h3
    rw [List.length_append, List.length_append] at h3
    show (sgn c d).bind (fun s => if 2000 < (acc ++ s).length then none else sgnL cs d (acc ++ s)) = some (acc ++ (btT c ++ btL cs))
    rw [sgn_of c d h.1 (by omega) (by omega)]
    show (if 2000 < (acc ++ btT c).length then none else sgnL cs d (acc ++ btT c)) = _
    rw [if_neg (by rw [List.length_append]; omega), sgnL_of cs d (acc ++ btT c) h.2 (by omega) (by rw [List.length_append, List.length_append]; omega), List.append_assoc]
end
theorem btL_eq : ∀ cs : List Ob, btL cs = (cs.map btT).flatten
  | [] => rfl
  | c :: cs => by
    rw [List.map_cons, List.flatten_cons, ← btL_eq cs]
    rfl
theorem btL_app (a b : List Ob) : btL (a ++ b) = btL a ++ btL b := by rw [btL_eq, btL_eq, btL_eq, List.map_append, List.flatten_append]
theorem btL_mem {c : Ob} {cs : List Ob} (h : c ∈ cs) : (btT c).length ≤ (btL cs).length := by
  induction cs with
  | nil => cases h
  | cons d cs ih =>
    show _ ≤ (btT d ++ btL cs).length
    rw [List.length_append]
    rcases List.mem_cons.mp h with rfl | h
    · omega
    · have := ih h
      omega
theorem isTL_mem {c : Ob} {cs : List Ob} (h : isTL cs = true) (hc : c ∈ cs) : isT c = true := by
  induction cs with
  | nil => cases hc
  | cons d cs ih =>
    have h : (isT d && isTL cs) = true := h
    rw [Bool.and_eq_true] at h
    rcases List.mem_cons.mp hc with rfl | hc
    · exact h.1
    · exact ih h.2 hc
theorem btL_count (cs : List Ob) (h : isTL cs = true) : 2 * cs.length ≤ (btL cs).length := by
  induction cs with
  | nil => exact Nat.le_refl _
  | cons d cs ih =>
    have h : (isT d && isTL cs) = true := h
    rw [Bool.and_eq_true] at h
    have := ih h.2
    show _ ≤ (btT d ++ btL cs).length
    rw [List.length_append, List.length_cons]
    cases d with
    | no => cases h.1
    | li ds =>
      have : (btT (.li ds)).length = (btL ds).length + 2 := by
        show (true :: (btL ds ++ [false])).length = _
        rw [List.length_cons, List.length_append]
        rfl
      omega
/-! ### ups and downs -/
def dp (l : List Bool) : Int := l.foldl (fun d b => d + 2 * (b.toNat : Int) - 1) 0
theorem dp_nil : dp [] = 0 := rfl
theorem dp_snoc (l : List Bool) (b : Bool) : dp (l ++ [b]) = dp l + 2 * (b.toNat : Int) - 1 := by
  unfold dp
  rw [List.foldl_append]
  rfl
structure okT (l : List Bool) : Prop where
  ne : l ≠ []
  mid : ∀ i, 0 < i → i < l.length → 1 ≤ dp (l.take i)
  fin : dp l = 0
  top : ∀ i, i ≤ l.length → dp (l.take i) ≤ 200
/-! ### trees none of whose lists stands at given addresses -/
mutual
inductive ObAv (H : Hp) (A : List Addr) : V → Ob → Prop where
  | li {a : Addr} {vs : List V} {cs : List Ob} : a ∉ A → H a = some (.lst vs) → ObsAv H A vs cs → ObAv H A (.ref a) (.li cs)
inductive ObsAv (H : Hp) (A : List Addr) : List V → List Ob → Prop where
  | nil : ObsAv H A [] []
  | cons {v : V} {vs : List V} {c : Ob} {cs : List Ob} : ObAv H A v c → ObsAv H A vs cs → ObsAv H A (v :: vs) (c :: cs)
end
section
variable {H H' : Hp} {A B : List Addr} {K : PySem.W.Frag}
mutual
/-- carried over: what stands at other addresses stays; fewer addresses to avoid, or such as held no list -/
theorem ObAv.mono (hk : ∀ a xs, a ∉ A → H a = some (.lst xs) → H' a = some (.lst xs) ∧ a ∉ B) : ∀ (o : Ob) (v : V), ObAv H A v o → ObAv H' B v o
  | .no, _, h => by cases h
  | .li cs, _, h => by
    cases h with
    | li h1 h2 h3 => exact .li (hk _ _ h1 h2).2 (hk _ _ h1 h2).1 (ObsAv.mono hk cs _ h3)
theorem ObsAv.mono (hk : ∀ a xs, a ∉ A → H a = some (.lst xs) → H' a = some (.lst xs) ∧ a ∉ B) : ∀ (cs : List Ob) (vs : List V), ObsAv H A vs cs → ObsAv H' B vs cs
  | [], _, h => by cases h; exact .nil
  | c :: cs, _, h => by
    cases h with
    | cons h1 h2 => exact .cons (ObAv.mono hk c _ h1) (ObsAv.mono hk cs _ h2)
end
mutual
theorem ObAv.at : ∀ (o : Ob) (v : V), ObAv H A v o → ObAt K H v o ∧ isT o = true
  | .no, _, h => by cases h
  | .li cs, _, h => by
    cases h with
    | li h1 h2 h3 => exact ⟨.li h2 (ObsAv.at cs _ h3).1, (ObsAv.at cs _ h3).2⟩
theorem ObsAv.at : ∀ (cs : List Ob) (vs : List V), ObsAv H A vs cs → ObsAt K H vs cs ∧ isTL cs = true
  | [], _, h => by cases h; exact ⟨.nil, rfl⟩
  | c :: cs, _, h => by
    cases h with
    | cons h1 h2 =>
      refine ⟨.cons (ObAv.at c _ h1).1 (ObsAv.at cs _ h2).1, ?_⟩
      show (isT c && isTL cs) = true
      have a1 := (ObAv.at c _ h1).2
      have a2 := (ObsAv.at cs _ h2).2
      rw [a1, a2]
      rfl
end
theorem ObsAv.snoc : ∀ {vs : List V} {cs : List Ob} {v : V} {c : Ob}, ObsAv H A vs cs → ObAv H A v c → ObsAv H A (vs ++ [v]) (cs ++ [c])
  | _, [], _, _, h, hc => by cases h; exact .cons hc .nil
  | _, d :: cs, _, _, h, hc => by
    cases h with
    | cons h1 h2 => exact .cons h1 (h2.snoc hc)
end
/-! ### the open rows of a tree that is read -/
structure StkAt (H : Hp) (R : Addr) (as : List Addr) (fs : List (List Ob)) : Prop where
  rows : H R = some (.lst (as.map V.ref))
  nd : (R :: as).Nodup
  len : as.length = fs.length
  row : ∀ (j : Nat) (a : Addr) (f : List Ob), as[j]? = some a → fs[j]? = some f → ∃ vs, H a = some (.lst vs) ∧ ObsAv H (R :: as) vs f
theorem snoc_at {α : Type} {l : List α} {x y : α} {j : Nat} (h : (l ++ [x])[j]? = some y) : l[j]? = some y ∨ (j = l.length ∧ y = x) := by
  rcases Nat.lt_trichotomy j l.length with h1 | h1 | h1
  · rw [List.getElem?_append_left h1] at h
    exact .inl h
  · subst h1
    rw [List.getElem?_append_right (Nat.le_refl _), Nat.sub_self] at h
    exact .inr ⟨rfl, (Option.some.inj h).symm⟩
  · rw [List.getElem?_eq_none (by rw [List.length_append]; show _ + 1 ≤ _; omega)] at h
    cases h
section
variable {H : Hp} {R p : Addr} {as : List Addr} {fs : List (List Ob)}
theorem StkAt.push (s : StkAt H R as fs) (hp : H p = none) : StkAt (upd (upd H p (.lst [])) R (.lst (as.map V.ref ++ [.ref p]))) R (as ++ [p]) (fs ++ [[]]) := by
  have hpR : p ≠ R := fun z => by rw [z, s.rows] at hp; cases hp
  have hpa : p ∉ as := fun h => by
    obtain ⟨j, hj, e⟩ := List.mem_iff_getElem.mp h
    obtain ⟨vs, h1, _⟩ := s.row j p (fs[j]'(by rw [← s.len]; exact hj)) (by rw [List.getElem?_eq_getElem hj, e]) (List.getElem?_eq_getElem _)
    rw [hp] at h1
    cases h1
  have hRa : R ∉ as := (List.nodup_cons.mp s.nd).1
  refine ⟨by rw [upd_same, List.map_append]; rfl, ?_, by rw [List.length_append, List.length_append, s.len]; rfl, fun j a f ha hf => ?_⟩
  · rw [List.nodup_cons]
    refine ⟨fun h => ?_, ?_⟩
    · rcases List.mem_append.mp h with h | h
      · exact hRa h
      · exact hpR (List.mem_singleton.mp h).symm
    · rw [List.nodup_append]
      refine ⟨(List.nodup_cons.mp s.nd).2, by simp, fun x hx y hy => ?_⟩
      have : y = p := by simpa using hy
      subst this
      exact fun e => hpa (e ▸ hx)
  · have hk : ∀ a' xs, a' ∉ R :: as → H a' = some (.lst xs) → (upd (upd H p (.lst [])) R (.lst (as.map V.ref ++ [.ref p]))) a' = some (.lst xs) ∧ a' ∉ R :: (as ++ [p]) := fun a' xs h1 h2 => by
      have n1 : a' ≠ R := fun z => h1 (z ▸ List.mem_cons_self)
      have n2 : a' ≠ p := fun z => by rw [z, hp] at h2; cases h2
      refine ⟨by rw [upd_ne n1, upd_ne n2]; exact h2, fun h => ?_⟩
      rcases List.mem_cons.mp h with h | h
      · exact n1 h
      · rcases List.mem_append.mp h with h | h
        · exact h1 (List.mem_cons_of_mem _ h)
        · exact n2 (by simpa using h)
    rcases snoc_at ha with ha | ⟨e, rfl⟩
    · have hj : j < fs.length := by rw [← s.len]; exact (List.getElem?_eq_some_iff.mp ha).1
      rw [List.getElem?_append_left hj] at hf
      obtain ⟨vs, h1, h2⟩ := s.row j a f ha hf
      have n1 : a ≠ R := fun z => hRa (z ▸ List.mem_of_getElem? ha)
      have n2 : a ≠ p := fun z => hpa (z ▸ List.mem_of_getElem? ha)
      exact ⟨vs, by rw [upd_ne n1, upd_ne n2]; exact h1, ObsAv.mono hk f vs h2⟩
    · rw [e, s.len, List.getElem?_append_right (Nat.le_refl _), Nat.sub_self] at hf
      have : f = [] := (Option.some.inj hf).symm
      subst this
      exact ⟨[], by rw [upd_ne hpR, upd_same], .nil⟩
theorem StkAt.pop {b a : Addr} {g f : List Ob} (s : StkAt H R ((as ++ [b]) ++ [a]) ((fs ++ [g]) ++ [f])) (hl : as.length = fs.length) : ∃ vs, H b = some (.lst vs) ∧ b ≠ R ∧ StkAt (upd (upd H R (.lst ((as ++ [b]).map V.ref))) b (.lst (vs ++ [.ref a]))) R (as ++ [b]) (fs ++ [g ++ [.li f]]) := by
  have nd := List.nodup_cons.mp s.nd
  have hab : as ++ [b] ++ [a] = as ++ [b, a] := by rw [List.append_assoc]; rfl
  have hbm : b ∈ (as ++ [b]) ++ [a] := List.mem_append_left _ (List.mem_append_right _ List.mem_cons_self)
  have ham : a ∈ (as ++ [b]) ++ [a] := List.mem_append_right _ List.mem_cons_self
  have hbR : b ≠ R := fun z => nd.1 (z ▸ hbm)
  have haR : a ≠ R := fun z => nd.1 (z ▸ ham)
  have nd2 := List.nodup_append.mp nd.2
  have haB : ∀ x ∈ as ++ [b], x ≠ a := fun x hx => nd2.2.2 x hx a List.mem_cons_self
  have nd3 := List.nodup_append.mp nd2.1
  have hbA : ∀ x ∈ as, x ≠ b := fun x hx => nd3.2.2 x hx b List.mem_cons_self
  have eb : ((as ++ [b]) ++ [a])[as.length]? = some b := by rw [hab, List.getElem?_append_right (Nat.le_refl _), Nat.sub_self]; rfl
  have eg : ((fs ++ [g]) ++ [f])[as.length]? = some g := by rw [hl, List.append_assoc, List.getElem?_append_right (Nat.le_refl _), Nat.sub_self]; rfl
  have ea : ((as ++ [b]) ++ [a])[as.length + 1]? = some a := by rw [hab, List.getElem?_append_right (by omega), Nat.add_sub_cancel_left]; rfl
  have ef : ((fs ++ [g]) ++ [f])[as.length + 1]? = some f := by rw [hl, List.append_assoc, List.getElem?_append_right (by omega), Nat.add_sub_cancel_left]; rfl
  obtain ⟨vb, hb1, hb2⟩ := s.row _ _ _ eb eg
  obtain ⟨va, ha1, ha2⟩ := s.row _ _ _ ea ef
  refine ⟨vb, hb1, hbR, by rw [upd_ne (Ne.symm hbR), upd_same], List.nodup_cons.mpr ⟨fun h => nd.1 (List.mem_append_left _ h), nd2.1⟩, by rw [List.length_append, List.length_append, hl]; rfl, fun j c k hc hk => ?_⟩
  have hkeep : ∀ a' xs, a' ∉ R :: ((as ++ [b]) ++ [a]) → H a' = some (.lst xs) → (upd (upd H R (.lst ((as ++ [b]).map V.ref))) b (.lst (vb ++ [.ref a]))) a' = some (.lst xs) ∧ a' ∉ R :: (as ++ [b]) := fun a' xs h1 h2 => by
    have n1 : a' ≠ R := fun z => h1 (z ▸ List.mem_cons_self)
    have n2 : a' ≠ b := fun z => by
      rw [z] at h1
      exact h1 (List.mem_cons_of_mem _ hbm)
    refine ⟨by rw [upd_ne n2, upd_ne n1]; exact h2, fun h => ?_⟩
    rcases List.mem_cons.mp h with h | h
    · exact n1 h
    · exact h1 (List.mem_cons_of_mem _ (List.mem_append_left _ h))
  rcases snoc_at hc with hc | ⟨e, rfl⟩
  · have hj : j < as.length := (List.getElem?_eq_some_iff.mp hc).1
    rw [List.getElem?_append_left (by rw [← hl]; exact hj)] at hk
    obtain ⟨vs, h1, h2⟩ := s.row j c k (by rw [List.append_assoc, List.getElem?_append_left hj]; exact hc) (by rw [List.append_assoc, List.getElem?_append_left (by rw [← hl]; exact hj)]; exact hk)
    have hcm := List.mem_of_getElem? hc
    have n1 : c ≠ R := fun z => nd.1 (z ▸ List.mem_append_left _ (List.mem_append_left _ hcm))
    have n2 : c ≠ b := hbA c hcm
    exact ⟨vs, by rw [upd_ne n2, upd_ne n1]; exact h1, ObsAv.mono hkeep k vs h2⟩
  · rw [e, hl, List.getElem?_append_right (Nat.le_refl _), Nat.sub_self] at hk
    have : k = g ++ [.li f] := (Option.some.inj hk).symm
    subst this
    refine ⟨_, upd_same .., (ObsAv.mono hkeep g vb hb2).snoc (.li ?_ ?_ (ObsAv.mono hkeep f va ha2))⟩
    · intro h
      rcases List.mem_cons.mp h with h | h
      · exact haR h
      · exact haB a h rfl
    · rw [upd_ne (haB c (List.mem_append_right _ List.mem_cons_self)).symm, upd_ne haR]
      exact ha1
end
def rawF (fs : List (List Ob)) : List Bool := (fs.map fun f => true :: btL f).flatten
theorem rawF_app (a b : List (List Ob)) : rawF (a ++ b) = rawF a ++ rawF b := by
  unfold rawF
  rw [List.map_append, List.flatten_append]
theorem rawF_one (f : List Ob) : rawF [f] = true :: btL f := by
  unfold rawF
  simp
theorem rawF_push (fs : List (List Ob)) : rawF (fs ++ [[]]) = rawF fs ++ [true] := by rw [rawF_app, rawF_one]; rfl
theorem rawF_pop (fs : List (List Ob)) (g f : List Ob) : rawF (fs ++ [g ++ [.li f]]) = rawF ((fs ++ [g]) ++ [f]) ++ [false] := by
  rw [rawF_app, rawF_app, rawF_app, rawF_one, rawF_one, rawF_one, btL_app]
  show rawF fs ++ (true :: (btL g ++ ((true :: (btL f ++ [false])) ++ []))) = _
  simp
def chainO : Nat → Ob
  | 0 => .li []
  | n + 1 => .li [chainO n]
def wideO (n : Nat) : Ob := .li (List.replicate n (.li []))
theorem obs_snoc {K : PySem.W.Frag} {H : Hp} : ∀ {vs : List V} {cs : List Ob} {v : V} {c : Ob}, ObsAt K H vs cs → ObAt K H v c → ObsAt K H (vs ++ [v]) (cs ++ [c])
  | _, [], _, _, h, hc => by cases h; exact .cons hc .nil
  | _, d :: cs, _, _, h, hc => by
    cases h with
    | cons h1 h2 => exact .cons h1 (obs_snoc h2 hc)
theorem obs_wide {K : PySem.W.Frag} {H : Hp} : ∀ {vs : List V}, (∀ v ∈ vs, ∃ a, v = .ref a ∧ H a = some (.lst [])) → ObsAt K H vs (List.replicate vs.length (.li []))
  | [], _ => .nil
  | v :: vs, h => by
    obtain ⟨a, rfl, e⟩ := h v List.mem_cons_self
    exact .cons (.li e .nil) (obs_wide fun u hu => h u (List.mem_cons_of_mem _ hu))
end Tw

set_option maxHeartbeats 4000000
namespace Tw
open PySem PySem.Spec PyProof.Rows L2 LamX
/-! ### trees with their lists' addresses -/
inductive AT where
  | nd (a : Addr) (cs : List AT)
def AT.root : AT → Addr
  | .nd a _ => a
mutual
def addrs : AT → List Addr
  | .nd a cs => a :: addrsL cs
def addrsL : List AT → List Addr
  | [] => []
  | c :: cs => addrs c ++ addrsL cs
end
mutual
def AtH (H : Hp) : AT → Prop
  | .nd a cs => H a = some (.lst (cs.map fun c => V.ref c.root)) ∧ AtHL H cs
def AtHL (H : Hp) : List AT → Prop
  | [] => True
  | c :: cs => AtH H c ∧ AtHL H cs
end
mutual
def toOb : AT → Ob
  | .nd _ cs => .li (toObL cs)
def toObL : List AT → List Ob
  | [] => []
  | c :: cs => toOb c :: toObL cs
end
mutual
def ins (b : Addr) (i : Nat) (f : Addr) : AT → AT
  | .nd a cs => if a = b then .nd a (cs.take i ++ [.nd f []] ++ cs.drop i) else .nd a (insL b i f cs)
def insL (b : Addr) (i : Nat) (f : Addr) : List AT → List AT
  | [] => []
  | c :: cs => ins b i f c :: insL b i f cs
end
section
variable {H H' : Hp} {K : PySem.W.Frag} {b f : Addr} {i : Nat}
theorem ins_root (t : AT) : (ins b i f t).root = t.root := by
  cases t with
  | nd a cs =>
    show (if a = b then AT.nd a (cs.take i ++ [.nd f []] ++ cs.drop i) else .nd a (insL b i f cs)).root = a
    split <;> rfl
mutual
theorem AtH.ob : ∀ (t : AT), AtH H t → ObAt K H (.ref t.root) (toOb t)
  | .nd a cs, h => .li h.1 (AtHL.obs cs h.2)
theorem AtHL.obs : ∀ (cs : List AT), AtHL H cs → ObsAt K H (cs.map fun c => V.ref c.root) (toObL cs)
  | [], _ => .nil
  | c :: cs, h => .cons (AtH.ob c h.1) (AtHL.obs cs h.2)
end
mutual
theorem AtH.frame : ∀ (t : AT), AtH H t → (∀ a ∈ addrs t, H' a = H a) → AtH H' t
  | .nd a cs, h, k => ⟨by rw [k a List.mem_cons_self]; exact h.1, AtHL.frame cs h.2 fun x hx => k x (List.mem_cons_of_mem _ hx)⟩
theorem AtHL.frame : ∀ (cs : List AT), AtHL H cs → (∀ a ∈ addrsL cs, H' a = H a) → AtHL H' cs
  | [], _, _ => trivial
  | c :: cs, h, k => ⟨AtH.frame c h.1 fun x hx => k x (List.mem_append_left _ hx), AtHL.frame cs h.2 fun x hx => k x (List.mem_append_right _ hx)⟩
end
end
section
variable {lo : Prop} {T : List (Addr × Str)} {H H' : Hp}
mutual
theorem Xg.att (x : Xg lo T H H') : ∀ (t : AT), AtH H t → AtH H' t
  | .nd a cs, h => ⟨x.lst h.1, Xg.attL x cs h.2⟩
theorem Xg.attL (x : Xg lo T H H') : ∀ (cs : List AT), AtHL H cs → AtHL H' cs
  | [], _ => trivial
  | c :: cs, h => ⟨Xg.att x c h.1, Xg.attL x cs h.2⟩
end
end
mutual
theorem isT_toOb : ∀ t : AT, isT (toOb t) = true ∧ (btT (toOb t)).length = 2 * (addrs t).length ∧ ht (toOb t) ≤ (addrs t).length
  | .nd a cs => by
    obtain ⟨h1, h2, h3⟩ := isTL_toOb cs
    refine ⟨h1, ?_, ?_⟩
    · show (true :: (btL (toObL cs) ++ [false])).length = 2 * ((addrsL cs).length + 1)
      rw [List.length_cons, List.length_append, h2]
      show 2 * (addrsL cs).length + 1 + 1 = _
      omega
    · show htL (toObL cs) + 1 ≤ (addrsL cs).length + 1
      omega
theorem isTL_toOb : ∀ cs : List AT, isTL (toObL cs) = true ∧ (btL (toObL cs)).length = 2 * (addrsL cs).length ∧ htL (toObL cs) ≤ (addrsL cs).length
  | [] => ⟨rfl, rfl, Nat.le_refl _⟩
  | c :: cs => by
    obtain ⟨h1, h2, h3⟩ := isT_toOb c
    obtain ⟨g1, g2, g3⟩ := isTL_toOb cs
    refine ⟨?_, ?_, ?_⟩
    · show (isT (toOb c) && isTL (toObL cs)) = true
      rw [h1, g1]
      rfl
    · show (btT (toOb c) ++ btL (toObL cs)).length = 2 * (addrs c ++ addrsL cs).length
      rw [List.length_append, List.length_append, h2, g2]
      omega
    · show max (ht (toOb c)) (htL (toObL cs)) ≤ (addrs c ++ addrsL cs).length
      rw [List.length_append]
      omega
end
section
variable {H H' : Hp} {b f : Addr} {i : Nat}
mutual
theorem ins_not : ∀ (t : AT), b ∉ addrs t → ins b i f t = t
  | .nd a cs, h => by
    have h1 : a ≠ b := fun z => h (z ▸ List.mem_cons_self)
    show (if a = b then AT.nd a (cs.take i ++ [.nd f []] ++ cs.drop i) else .nd a (insL b i f cs)) = _
    rw [if_neg h1, insL_not cs fun z => h (List.mem_cons_of_mem _ z)]
theorem insL_not : ∀ (cs : List AT), b ∉ addrsL cs → insL b i f cs = cs
  | [], _ => rfl
  | c :: cs, h => by
    show ins b i f c :: insL b i f cs = c :: cs
    rw [ins_not c fun z => h (List.mem_append_left _ z), insL_not cs fun z => h (List.mem_append_right _ z)]
end
theorem addrsL_app : ∀ (x y : List AT), addrsL (x ++ y) = addrsL x ++ addrsL y
  | [], _ => rfl
  | c :: x, y => by
    show addrs c ++ addrsL (x ++ y) = (addrs c ++ addrsL x) ++ addrsL y
    rw [addrsL_app x y, List.append_assoc]
mutual
theorem ins_perm : ∀ (t : AT), (addrs t).Nodup → b ∈ addrs t → (addrs (ins b i f t)).Perm (f :: addrs t)
  | .nd a cs, hn, hb => by
    have hn : (a :: addrsL cs).Nodup := hn
    by_cases h : a = b
    · have e : ins b i f (.nd a cs) = .nd a (cs.take i ++ [.nd f []] ++ cs.drop i) := if_pos h
      rw [e]
      show (a :: addrsL (cs.take i ++ [.nd f []] ++ cs.drop i)).Perm (f :: a :: addrsL cs)
      rw [addrsL_app, addrsL_app]
      have e2 : addrsL cs = addrsL (cs.take i) ++ addrsL (cs.drop i) := by rw [← addrsL_app, List.take_append_drop]
      rw [e2]
      show (a :: ((addrsL (cs.take i) ++ [f]) ++ addrsL (cs.drop i))).Perm _
      refine List.Perm.trans (List.Perm.cons a ?_) (List.Perm.swap f a _)
      rw [List.append_assoc]
      exact List.perm_middle
    · have e : ins b i f (.nd a cs) = .nd a (insL b i f cs) := if_neg h
      rw [e]
      have hb2 : b ∈ addrsL cs := (List.mem_cons.mp hb).resolve_left fun z => h z.symm
      exact List.Perm.trans (List.Perm.cons a (insL_perm cs (List.nodup_cons.mp hn).2 hb2)) (List.Perm.swap f a _)
theorem insL_perm : ∀ (cs : List AT), (addrsL cs).Nodup → b ∈ addrsL cs → (addrsL (insL b i f cs)).Perm (f :: addrsL cs)
  | [], _, hb => by cases hb
  | c :: cs, hn, hb => by
    have hn : (addrs c ++ addrsL cs).Nodup := hn
    obtain ⟨n1, n2, n3⟩ := List.nodup_append.mp hn
    show (addrs (ins b i f c) ++ addrsL (insL b i f cs)).Perm (f :: (addrs c ++ addrsL cs))
    rcases List.mem_append.mp hb with h | h
    · rw [insL_not cs fun z => n3 b h b z rfl]
      exact List.Perm.append_right _ (ins_perm c n1 h)
    · rw [ins_not c fun z => n3 b z b h rfl]
      exact List.Perm.trans (List.Perm.append_left _ (insL_perm cs n2 h)) List.perm_middle
end
theorem atL_app : ∀ (x y : List AT), AtHL H x → AtHL H y → AtHL H (x ++ y)
  | [], _, _, h => h
  | c :: x, y, h1, h2 => ⟨h1.1, atL_app x y h1.2 h2⟩
theorem atL_split : ∀ (x y : List AT), AtHL H (x ++ y) → AtHL H x ∧ AtHL H y
  | [], _, h => ⟨trivial, h⟩
  | c :: x, y, h => ⟨⟨h.1, (atL_split x y h.2).1⟩, (atL_split x y h.2).2⟩
theorem insL_roots : ∀ cs : List AT, (insL b i f cs).map (fun c => V.ref c.root) = cs.map fun c => V.ref c.root
  | [] => rfl
  | c :: cs => by
    show V.ref (ins b i f c).root :: (insL b i f cs).map (fun c => V.ref c.root) = _
    rw [ins_root, insL_roots cs]
    rfl
mutual
theorem ins_at (xs : List V) (hb : H b = some (.lst xs)) (hb2 : H' b = some (.lst (xs.take i ++ [V.ref f] ++ xs.drop i))) (hf : H' f = some (.lst [])) : ∀ (t : AT), AtH H t → (addrs t).Nodup → (∀ a, a ≠ b → a ∈ addrs t → H' a = H a) → b ∈ addrs t → AtH H' (ins b i f t)
  | .nd a cs, h, hn, hk, hm => by
    have hn : (a :: addrsL cs).Nodup := hn
    have hn2 := List.nodup_cons.mp hn
    by_cases e : a = b
    · subst e
      have e1 : ins a i f (.nd a cs) = .nd a (cs.take i ++ [.nd f []] ++ cs.drop i) := if_pos rfl
      rw [e1]
      have hx : xs = cs.map fun c => V.ref c.root := by
        have := h.1
        rw [hb] at this
        injection this with this
        injection this
      have hcs : AtHL H' cs := AtHL.frame cs h.2 fun x hx => hk x (fun z => hn2.1 (z ▸ hx)) (List.mem_cons_of_mem _ hx)
      rw [← List.take_append_drop i cs] at hcs
      obtain ⟨c1, c2⟩ := atL_split _ _ hcs
      refine ⟨?_, atL_app _ _ (atL_app _ _ c1 ⟨⟨hf, trivial⟩, trivial⟩) c2⟩
      rw [hb2, hx, List.map_append, List.map_append, List.map_take, List.map_drop]
      rfl
    · have e1 : ins b i f (.nd a cs) = .nd a (insL b i f cs) := if_neg e
      rw [e1]
      have hm2 : b ∈ addrsL cs := (List.mem_cons.mp hm).resolve_left fun z => e z.symm
      refine ⟨?_, insL_at xs hb hb2 hf cs h.2 hn2.2 (fun x hx hx2 => hk x hx (List.mem_cons_of_mem _ hx2)) hm2⟩
      rw [insL_roots, hk a e List.mem_cons_self]
      exact h.1
theorem insL_at (xs : List V) (hb : H b = some (.lst xs)) (hb2 : H' b = some (.lst (xs.take i ++ [V.ref f] ++ xs.drop i))) (hf : H' f = some (.lst [])) : ∀ (cs : List AT), AtHL H cs → (addrsL cs).Nodup → (∀ a, a ≠ b → a ∈ addrsL cs → H' a = H a) → b ∈ addrsL cs → AtHL H' (insL b i f cs)
  | [], _, _, _, hm => by cases hm
  | c :: cs, h, hn, hk, hm => by
    have hn : (addrs c ++ addrsL cs).Nodup := hn
    obtain ⟨n1, n2, n3⟩ := List.nodup_append.mp hn
    rcases List.mem_append.mp hm with hm | hm
    · refine ⟨ins_at xs hb hb2 hf c h.1 n1 (fun x hx hx2 => hk x hx (List.mem_append_left _ hx2)) hm, ?_⟩
      rw [insL_not cs fun z => n3 b hm b z rfl]
      exact AtHL.frame cs h.2 fun x hx => hk x (fun z => n3 b hm b (z ▸ hx) rfl) (List.mem_append_right _ hx)
    · refine ⟨?_, insL_at xs hb hb2 hf cs h.2 n2 (fun x hx hx2 => hk x hx (List.mem_append_right _ hx2)) hm⟩
      rw [ins_not c fun z => n3 b z b hm rfl]
      exact AtH.frame c h.1 fun x hx => hk x (fun z => n3 b (z ▸ hx) b hm rfl) (List.mem_append_left _ hx)
end
end
section
variable {H : Hp} {b : Addr}
mutual
/-- each address of a tree holds a list, no longer than the tree -/
theorem at_of_mem : ∀ (t : AT), AtH H t → b ∈ addrs t → ∃ xs : List V, H b = some (.lst xs) ∧ xs.length ≤ (addrs t).length
  | .nd a cs, h, hm => by
    rcases List.mem_cons.mp hm with rfl | hm
    · refine ⟨_, h.1, ?_⟩
      rw [List.length_map]
      show cs.length ≤ (addrsL cs).length + 1
      have : ∀ cs : List AT, cs.length ≤ (addrsL cs).length := fun cs => by
        induction cs with
        | nil => exact Nat.le_refl _
        | cons c cs ih =>
          show cs.length + 1 ≤ (addrs c ++ addrsL cs).length
          rw [List.length_append]
          cases c with
          | nd a' cs' =>
            show _ ≤ (addrsL cs').length + 1 + _
            omega
      have := this cs
      omega
    · obtain ⟨xs, h1, h2⟩ := atL_of_mem cs h.2 hm
      exact ⟨xs, h1, by show _ ≤ (addrsL cs).length + 1; omega⟩
theorem atL_of_mem : ∀ (cs : List AT), AtHL H cs → b ∈ addrsL cs → ∃ xs : List V, H b = some (.lst xs) ∧ xs.length ≤ (addrsL cs).length
  | [], _, hm => by cases hm
  | c :: cs, h, hm => by
    rcases List.mem_append.mp hm with hm | hm
    · obtain ⟨xs, h1, h2⟩ := at_of_mem c h.1 hm
      exact ⟨xs, h1, by show _ ≤ (addrs c ++ addrsL cs).length; rw [List.length_append]; omega⟩
    · obtain ⟨xs, h1, h2⟩ := atL_of_mem cs h.2 hm
      exact ⟨xs, h1, by show _ ≤ (addrs c ++ addrsL cs).length; rw [List.length_append]; omega⟩
end
end
end Tw

set_option maxHeartbeats 4000000
namespace Tw
open PySem PySem.Spec PyProof.Rows L2 LamX
/-! ### ups and downs of a tree's bits -/
theorem dp_from : ∀ (l : List Bool) (a : Int), l.foldl (fun d b => d + 2 * (b.toNat : Int) - 1) a = a + dp l
  | [], a => by unfold dp; simp
  | b :: l, a => by
    unfold dp
    rw [List.foldl_cons, List.foldl_cons, dp_from l, dp_from l (0 + 2 * (b.toNat : Int) - 1)]
    omega
theorem dp_app (a b : List Bool) : dp (a ++ b) = dp a + dp b := by
  unfold dp
  rw [List.foldl_append, dp_from]
  rfl
theorem dp_cons (b : Bool) (l : List Bool) : dp (b :: l) = 2 * (b.toNat : Int) - 1 + dp l := by
  unfold dp
  rw [List.foldl_cons, dp_from]
  unfold dp
  omega
theorem dp_up (l : List Bool) : dp (true :: l) = 1 + dp l := by rw [dp_cons]; rfl
theorem dp_dn (l : List Bool) : dp (false :: l) = dp l - 1 := by
  rw [dp_cons]
  show 2 * ((0 : Nat) : Int) - 1 + dp l = _
  omega
theorem take_app_dp (a b : List Bool) (i : Nat) : dp ((a ++ b).take i) = if i ≤ a.length then dp (a.take i) else dp a + dp (b.take (i - a.length)) := by
  split
  · rw [List.take_append_of_le_length (by assumption)]
  · rw [List.take_append, List.take_of_length_le (by omega), dp_app]
structure UD (l : List Bool) (h : Nat) : Prop where
  z : dp l = 0
  lo : ∀ i, 0 ≤ dp (l.take i)
  hi : ∀ i, dp (l.take i) ≤ h
  at_ : ∃ i, dp (l.take i) = h
mutual
theorem ud_T : ∀ o : Ob, isT o = true → UD (btT o) (ht o) ∧ ∀ i, 0 < i → i < (btT o).length → 1 ≤ dp ((btT o).take i)
  | .no, h => by cases h
  | .li cs, h => by
    obtain ⟨z, lo, hi, at_⟩ := ud_L cs h
    have step : ∀ i, dp ((true :: (btL cs ++ [false])).take (i + 1)) = if i ≤ (btL cs).length then 1 + dp ((btL cs).take i) else 0 := fun i => by
      rw [List.take_succ_cons, dp_up, take_app_dp]
      split
      · rfl
      · rw [z]
        obtain ⟨j, hj⟩ : ∃ j, i - (btL cs).length = j + 1 := ⟨i - (btL cs).length - 1, by omega⟩
        rw [hj, List.take_succ_cons, List.take_nil, dp_dn]
        rfl
    refine ⟨⟨?_, fun i => ?_, fun i => ?_, ?_⟩, fun i h0 hl => ?_⟩
    · show dp (true :: (btL cs ++ [false])) = 0
      rw [dp_up, dp_app, z, dp_dn]
      rfl
    · show 0 ≤ dp ((true :: (btL cs ++ [false])).take i)
      cases i with
      | zero => exact Int.le_refl _
      | succ i =>
        rw [step]
        have := lo i
        split <;> omega
    · show dp ((true :: (btL cs ++ [false])).take i) ≤ ((htL cs + 1 : Nat) : Int)
      cases i with
      | zero =>
        show (0 : Int) ≤ _
        omega
      | succ i =>
        rw [step]
        have := hi i
        split <;> omega
    · obtain ⟨i, hi⟩ := at_
      by_cases hl : i ≤ (btL cs).length
      · refine ⟨i + 1, ?_⟩
        show dp ((true :: (btL cs ++ [false])).take (i + 1)) = ((htL cs + 1 : Nat) : Int)
        rw [step, if_pos hl, hi]
        omega
      · refine ⟨(btL cs).length + 1, ?_⟩
        show dp ((true :: (btL cs ++ [false])).take ((btL cs).length + 1)) = ((htL cs + 1 : Nat) : Int)
        rw [List.take_of_length_le (by omega)] at hi
        rw [step, if_pos (Nat.le_refl _), List.take_length, hi]
        omega
    · obtain ⟨i, rfl⟩ : ∃ j, i = j + 1 := ⟨i - 1, by omega⟩
      have hl : i + 1 < (true :: (btL cs ++ [false])).length := hl
      rw [List.length_cons, List.length_append] at hl
      have hl : i + 1 < (btL cs).length + 1 + 1 := hl
      show 1 ≤ dp ((true :: (btL cs ++ [false])).take (i + 1))
      rw [step, if_pos (by omega)]
      have := lo i
      omega
theorem ud_L : ∀ cs : List Ob, isTL cs = true → UD (btL cs) (htL cs)
  | [], _ => ⟨rfl, fun i => by show 0 ≤ dp (([] : List Bool).take i); rw [List.take_nil]; exact Int.le_refl _, fun i => by show dp (([] : List Bool).take i) ≤ 0; rw [List.take_nil]; exact Int.le_refl _, 0, rfl⟩
  | c :: cs, h => by
    have h : (isT c && isTL cs) = true := h
    rw [Bool.and_eq_true] at h
    obtain ⟨⟨z1, lo1, hi1, a1⟩, _⟩ := ud_T c h.1
    obtain ⟨z2, lo2, hi2, a2⟩ := ud_L cs h.2
    have e : btL (c :: cs) = btT c ++ btL cs := rfl
    have eh : htL (c :: cs) = max (ht c) (htL cs) := rfl
    rw [e, eh]
    refine ⟨by rw [dp_app, z1, z2]; rfl, fun i => ?_, fun i => ?_, ?_⟩
    · rw [take_app_dp, z1]
      have := lo1 i
      have := lo2 (i - (btT c).length)
      split <;> omega
    · rw [take_app_dp, z1]
      have := hi1 i
      have := hi2 (i - (btT c).length)
      split <;> omega
    · rcases Nat.le_total (ht c) (htL cs) with hh | hh
      · obtain ⟨i, hi⟩ := a2
        refine ⟨(btT c).length + i, ?_⟩
        rw [take_app_dp, z1]
        by_cases h0 : i = 0
        · subst h0
          rw [if_pos (by omega), Nat.add_zero, List.take_length, z1]
          have : dp ((btL cs).take 0) = 0 := rfl
          omega
        · rw [if_neg (by omega), Nat.add_sub_cancel_left, hi]
          omega
      · obtain ⟨i, hi⟩ := a1
        by_cases hl : i ≤ (btT c).length
        · refine ⟨i, ?_⟩
          rw [take_app_dp, if_pos hl, hi]
          omega
        · refine ⟨(btT c).length, ?_⟩
          rw [List.take_of_length_le (by omega)] at hi
          rw [take_app_dp, if_pos (Nat.le_refl _), List.take_length, hi]
          omega
end
theorem okT_bt {o : Ob} (h : isT o = true) (hh : ht o ≤ 200) : okT (btT o) := by
  obtain ⟨⟨z, lo, hi, a⟩, m⟩ := ud_T o h
  refine ⟨fun e => ?_, m, z, fun i _ => ?_⟩
  · cases o with
    | no => cases h
    | li cs => cases e
  · have := hi i
    omega
theorem ht_of {o : Ob} (h : isT o = true) (ok : okT (btT o)) : ht o ≤ 200 := by
  obtain ⟨⟨z, lo, hi, i, hi2⟩, m⟩ := ud_T o h
  by_cases hl : i ≤ (btT o).length
  · have := ok.top i hl
    omega
  · rw [List.take_of_length_le (by omega), z] at hi2
    omega
/-! ### a tree by its bits -/
mutual
theorem inj_T : ∀ (o o' : Ob) (r r' : List Bool), isT o = true → isT o' = true → btT o ++ r = btT o' ++ r' → o = o' ∧ r = r'
  | .no, _, _, _, h, _, _ => by cases h
  | .li cs, .no, _, _, _, h, _ => by cases h
  | .li cs, .li cs', r, r', h, h', e => by
    have e : true :: (btL cs ++ [false]) ++ r = true :: (btL cs' ++ [false]) ++ r' := e
    rw [List.cons_append, List.cons_append, List.append_assoc, List.append_assoc] at e
    obtain ⟨e1, e2⟩ := inj_L cs cs' r r' h h' (List.cons.inj e).2
    exact ⟨by rw [e1], e2⟩
theorem inj_L : ∀ (cs cs' : List Ob) (r r' : List Bool), isTL cs = true → isTL cs' = true → btL cs ++ ([false] ++ r) = btL cs' ++ ([false] ++ r') → cs = cs' ∧ r = r'
  | [], [], r, r', _, _, e => ⟨rfl, (List.cons.inj e).2⟩
  | [], c :: cs, r, r', _, h, e => by
    have h : (isT c && isTL cs) = true := h
    rw [Bool.and_eq_true] at h
    cases c with
    | no => cases h.1
    | li ds => exact absurd (List.cons.inj e).1 (by decide)
  | c :: cs, [], r, r', h, _, e => by
    have h : (isT c && isTL cs) = true := h
    rw [Bool.and_eq_true] at h
    cases c with
    | no => cases h.1
    | li ds => exact absurd (List.cons.inj e).1 (by decide)
  | c :: cs, c' :: cs', r, r', h, h', e => by
    have h : (isT c && isTL cs) = true := h
    have h' : (isT c' && isTL cs') = true := h'
    rw [Bool.and_eq_true] at h h'
    have e : (btT c ++ btL cs) ++ ([false] ++ r) = (btT c' ++ btL cs') ++ ([false] ++ r') := e
    rw [List.append_assoc, List.append_assoc] at e
    obtain ⟨e1, e2⟩ := inj_T c c' _ _ h.1 h'.1 e
    obtain ⟨e3, e4⟩ := inj_L cs cs' r r' h.2 h'.2 e2
    exact ⟨by rw [e1, e3], e4⟩
end
theorem bt_inj {o o' : Ob} (h : isT o = true) (h' : isT o' = true) (e : btT o = btT o') : o = o' := (inj_T o o' [] [] h h' (by rw [List.append_nil, List.append_nil]; exact e)).1
/-! ### trees compared -/
mutual
def dat : Ob → PyData
  | .no => .none
  | .li cs => .list (datL cs)
def datL : List Ob → List PyData
  | [] => []
  | c :: cs => dat c :: datL cs
end
section
variable {K : PySem.W.Frag} {H : Hp}
mutual
theorem dp_ob : ∀ (o : Ob) (v : V), isT o = true → ObAt K H v o → Dp K H v (dat o)
  | .no, _, h, _ => by cases h
  | .li cs, _, h, a => by
    cases a with
    | li e hs => exact .lst (SqL.of e) (dp_obs cs _ h hs)
theorem dp_obs : ∀ (cs : List Ob) (vs : List V), isTL cs = true → ObsAt K H vs cs → DpAll K H vs (datL cs)
  | [], _, _, a => by cases a; exact .nil
  | c :: cs, _, h, a => by
    have h : (isT c && isTL cs) = true := h
    rw [Bool.and_eq_true] at h
    cases a with
    | cons a1 a2 => exact .cons (dp_ob c _ h.1 a1) (dp_obs cs _ h.2 a2)
end
end
mutual
theorem sh_ob : ∀ (o : Ob) (n : Nat), isT o = true → ht o ≤ n → Sh n (dat o)
  | .no, _, h, _ => by cases h
  | .li cs, n, h, hh => by
    have hh : htL cs + 1 ≤ n := hh
    obtain ⟨n, rfl⟩ : ∃ k, n = k + 1 := ⟨n - 1, by omega⟩
    exact sh_lst (sh_obs cs n h (by omega))
theorem sh_obs : ∀ (cs : List Ob) (n : Nat), isTL cs = true → htL cs ≤ n → ∀ d ∈ datL cs, Sh n d
  | [], _, _, _ => fun d h => by cases h
  | c :: cs, n, h, hh => by
    have h : (isT c && isTL cs) = true := h
    rw [Bool.and_eq_true] at h
    have hh : max (ht c) (htL cs) ≤ n := hh
    intro d hd
    rcases List.mem_cons.mp hd with rfl | hd
    · exact sh_ob c n h.1 (by omega)
    · exact sh_obs cs n h.2 (by omega) d hd
end
/-! ### what is no tree -/
theorem sgn_no {d : Nat} : sgn .no d = none := rfl
theorem chain_T : ∀ n, isT (chainO n) = true ∧ ht (chainO n) = n + 1 ∧ btT (chainO n) = List.replicate (n + 1) true ++ List.replicate (n + 1) false
  | 0 => ⟨rfl, rfl, rfl⟩
  | n + 1 => by
    obtain ⟨h1, h2, h3⟩ := chain_T n
    refine ⟨?_, ?_, ?_⟩
    · show (isT (chainO n) && true) = true
      rw [h1]
      rfl
    · show max (ht (chainO n)) 0 + 1 = _
      omega
    · show true :: ((btT (chainO n) ++ []) ++ [false]) = _
      rw [h3, List.append_nil, List.append_assoc, ← List.replicate_succ', List.replicate_succ (n := n + 1)]
      rfl
theorem wide_T (n : Nat) : isT (wideO n) = true ∧ ht (wideO n) ≤ 2 ∧ btT (wideO n) = true :: ((List.replicate n [true, false]).flatten ++ [false]) := by
  have h : isTL (List.replicate n (.li [])) = true ∧ htL (List.replicate n (.li [])) ≤ 1 := by
    induction n with
    | zero => exact ⟨rfl, Nat.zero_le _⟩
    | succ n ih =>
      rw [List.replicate_succ]
      refine ⟨?_, ?_⟩
      · show (true && isTL (List.replicate n (.li []))) = true
        rw [ih.1]
        rfl
      · show max 1 (htL (List.replicate n (.li []))) ≤ 1
        omega
  refine ⟨h.1, Nat.succ_le_succ h.2, ?_⟩
  show true :: (btL (List.replicate n (.li [])) ++ [false]) = _
  rw [btL_eq, List.map_replicate]
  rfl
mutual
/-- too deep -/
theorem sgn_deep : ∀ (o : Ob) (d : Nat), isT o = true → 201 < d + ht o → sgn o d = none
  | .no, _, _, _ => rfl
  | .li cs, d, h, hh => by
    have hh : 201 < d + (htL cs + 1) := hh
    show (if 200 < d then none else (sgnL cs (d + 1) [true]).map (· ++ [false])) = none
    by_cases hd : 200 < d
    · rw [if_pos hd]
    · rw [if_neg hd, sgnL_deep cs (d + 1) [true] h (by omega) (by intro z; subst z; have : htL [] = 0 := rfl; omega)]
      rfl
theorem sgnL_deep : ∀ (cs : List Ob) (d : Nat) (acc : List Bool), isTL cs = true → 201 < d + htL cs → cs ≠ [] → sgnL cs d acc = none
  | [], _, _, _, _, h => absurd rfl h
  | c :: cs, d, acc, h, hh, _ => by
    have h : (isT c && isTL cs) = true := h
    rw [Bool.and_eq_true] at h
    have hh : 201 < d + max (ht c) (htL cs) := hh
    show ((sgn c d).bind fun s => if 2000 < (acc ++ s).length then none else sgnL cs d (acc ++ s)) = none
    rcases Nat.lt_or_ge 201 (d + ht c) with hc | hc
    · rw [sgn_deep c d h.1 hc]
      rfl
    · cases hs : sgn c d with
      | none => rfl
      | some s =>
        show (if 2000 < (acc ++ s).length then none else sgnL cs d (acc ++ s)) = none
        split
        · rfl
        · refine sgnL_deep cs d _ h.2 (by omega) fun z => ?_
          subst z
          have : htL [] = 0 := rfl
          have : 1 ≤ ht c := by
            cases c with
            | no => cases h.1
            | li ds => exact Nat.succ_le_succ (Nat.zero_le _)
          by_cases hd : 200 < d
          · cases c with
            | no => cases hs
            | li ds =>
              have hs : (if 200 < d then none else _) = some s := hs
              rw [if_pos hd] at hs
              cases hs
          · omega
end
mutual
theorem sgn_eq : ∀ (o : Ob) (d : Nat) (s : List Bool), sgn o d = some s → s = btT o
  | .no, _, _, h => by cases h
  | .li cs, d, s, h => by
    have h : (if 200 < d then none else (sgnL cs (d + 1) [true]).map (· ++ [false])) = some s := h
    by_cases hd : 200 < d
    · rw [if_pos hd] at h
      cases h
    · rw [if_neg hd] at h
      obtain ⟨r, h1, h2⟩ := Option.map_eq_some_iff.mp h
      rw [← h2, sgnL_eq cs _ _ _ h1]
      rfl
theorem sgnL_eq : ∀ (cs : List Ob) (d : Nat) (acc s : List Bool), sgnL cs d acc = some s → s = acc ++ btL cs
  | [], _, acc, s, h => by
    have h : some acc = some s := h
    rw [← Option.some.inj h]
    exact (List.append_nil _).symm
  | c :: cs, d, acc, s, h => by
    have h : ((sgn c d).bind fun s => if 2000 < (acc ++ s).length then none else sgnL cs d (acc ++ s)) = some s := h
    cases hs : sgn c d with
    | none =>
      rw [hs] at h
      cases h
    | some r =>
      rw [hs] at h
      have h : (if 2000 < (acc ++ r).length then none else sgnL cs d (acc ++ r)) = some s := h
      by_cases hl : 2000 < (acc ++ r).length
      · rw [if_pos hl] at h
        cases h
      · rw [if_neg hl] at h
        rw [sgnL_eq cs d _ _ h, sgn_eq c d r hs, List.append_assoc]
        rfl
end
theorem sgn_long {o : Ob} (h : 2000 < (btT o).length) : ∀ s, sgn o 1 = some s → 2000 < s.length := fun s e => by
  rw [sgn_eq o 1 s e]
  exact h
end Tw

set_option maxHeartbeats 4000000
namespace Tw
open PySem PySem.Spec PyProof.Rows L2 LamX
/-! ### the places at which f holds -/
def fr (f : Nat → Bool) (n : Nat) : List Nat := (List.range n).filter f
section
variable {f : Nat → Bool} {n p : Nat}
theorem fr_succ : fr f (n + 1) = fr f n ++ if f n = true then [n] else [] := by
  unfold fr
  rw [List.range_succ, List.filter_append]
  congr 1
  by_cases h : f n = true
  · simp [h]
  · simp [h]
theorem fr_len_succ : (fr f (n + 1)).length = (fr f n).length + if f n = true then 1 else 0 := by
  rw [fr_succ, List.length_append]
  split <;> rfl
theorem fr_mono (h : p ≤ n) : (fr f p).length ≤ (fr f n).length := by
  induction n with
  | zero => rw [Nat.le_zero.mp h]; exact Nat.le_refl _
  | succ n ih =>
    rcases Nat.lt_or_ge n p with h1 | h1
    · rw [show p = n + 1 by omega]; exact Nat.le_refl _
    · rw [fr_len_succ]
      have := ih h1
      omega
theorem fr_le : (fr f n).length ≤ n := by
  unfold fr
  exact Nat.le_trans (List.length_filter_le _ _) (by rw [List.length_range]; exact Nat.le_refl _)
theorem fr_mem {x : Nat} : x ∈ fr f n ↔ x < n ∧ f x = true := by
  unfold fr
  rw [List.mem_filter, List.mem_range]
theorem fr_take (h : p ≤ n) : (fr f n).take (fr f p).length = fr f p := by
  induction n with
  | zero => rw [Nat.le_zero.mp h]; exact List.take_of_length_le (Nat.le_refl _)
  | succ n ih =>
    rcases Nat.lt_or_ge n p with h1 | h1
    · rw [show p = n + 1 by omega]; exact List.take_of_length_le (Nat.le_refl _)
    · rw [fr_succ, List.take_append_of_le_length (fr_mono h1), ih h1]
theorem fr_get (h : p < n) (hp : f p = true) : (fr f n)[(fr f p).length]? = some p := by
  induction n with
  | zero => omega
  | succ n ih =>
    rw [fr_succ]
    rcases Nat.lt_or_ge p n with h1 | h1
    · have e := ih h1
      rw [List.getElem?_append_left (List.getElem?_eq_some_iff.mp e).1]
      exact e
    · have e : p = n := by omega
      subst e
      rw [hp, List.getElem?_append_right (Nat.le_refl _), Nat.sub_self]
      rfl
theorem fr_lt (h : p ≤ n) : (fr f n).filter (fun i => decide (i < p)) = fr f p := by
  induction n with
  | zero => rw [Nat.le_zero.mp h]; rfl
  | succ n ih =>
    rcases Nat.lt_or_ge n p with h1 | h1
    · rw [show p = n + 1 by omega, List.filter_eq_self]
      intro x hx
      exact decide_eq_true (fr_mem.mp hx).1
    · rw [fr_succ, List.filter_append, ih h1]
      by_cases hf : f n = true
      · rw [if_pos hf, List.filter_cons, if_neg (by rw [decide_eq_false (by omega)]; decide)]
        exact List.append_nil _
      · rw [if_neg hf]
        exact List.append_nil _
theorem fr_ge (h : p ≤ n) : (fr f n).filter (fun i => decide (i ≥ p)) = (fr f n).drop (fr f p).length := by
  induction n with
  | zero => rw [Nat.le_zero.mp h]; rfl
  | succ n ih =>
    rcases Nat.lt_or_ge n p with h1 | h1
    · rw [show p = n + 1 by omega, List.drop_of_length_le (Nat.le_refl _), List.filter_eq_nil_iff]
      intro x hx hd
      have := (fr_mem.mp hx).1
      have := of_decide_eq_true hd
      omega
    · rw [fr_succ, List.filter_append, ih h1, List.drop_append_of_le_length (fr_mono h1)]
      congr 1
      by_cases hf : f n = true
      · rw [if_pos hf, List.filter_cons, if_pos (decide_eq_true h1)]
        rfl
      · rw [if_neg hf]
        rfl
theorem fr_add (a k : Nat) : (fr f (a + k)).length = (fr f a).length + (fr (fun i => f (a + i)) k).length := by
  induction k with
  | zero => rfl
  | succ k ih =>
    rw [show a + (k + 1) = (a + k) + 1 from rfl, fr_len_succ, ih, fr_len_succ]
    omega
theorem fr_congr {g : Nat → Bool} (h : ∀ i, i < n → f i = g i) : fr f n = fr g n := by
  unfold fr
  exact List.filter_congr fun i hi => h i (List.mem_range.mp hi)
end
/-! ### a row's places -/
def bt (b : Bool) (l : List Bool) (i : Nat) : Bool := l[i]? == some b
def pos (b : Bool) (l : List Bool) : List Nat := fr (bt b l) l.length
def cn (b : Bool) (l : List Bool) (p : Nat) : Nat := (fr (bt b l) p).length
section
variable {b : Bool} {l : List Bool} {p n : Nat}
theorem bt_iff : bt b l p = true ↔ l[p]? = some b := by unfold bt; exact beq_iff_eq
theorem cn_zero : cn b l 0 = 0 := rfl
theorem cn_succ : cn b l (p + 1) = cn b l p + if bt b l p = true then 1 else 0 := fr_len_succ
theorem cn_le : cn b l p ≤ p := fr_le
theorem cn_mono (h : p ≤ n) : cn b l p ≤ cn b l n := fr_mono h
theorem cn_two (h : p ≤ l.length) : cn true l p + cn false l p = p := by
  induction p with
  | zero => rfl
  | succ p ih =>
    have ih := ih (by omega)
    rw [cn_succ, cn_succ]
    have : l[p]? = some true ∨ l[p]? = some false := by
      rw [List.getElem?_eq_getElem (show p < l.length by omega)]
      cases l[p]
      · exact .inr rfl
      · exact .inl rfl
    rcases this with h | h
    · rw [if_pos (bt_iff.mpr h), if_neg (fun z => by rw [bt_iff.mp z] at h; cases h)]
      omega
    · rw [if_pos (bt_iff.mpr h), if_neg (fun z => by rw [bt_iff.mp z] at h; cases h)]
      omega
theorem pos_len : (pos b l).length = cn b l l.length := rfl
theorem pos_get (hp : l[p]? = some b) : (pos b l)[cn b l p]? = some p := fr_get (List.getElem?_eq_some_iff.mp hp).1 (bt_iff.mpr hp)
theorem pos_none (h : cn b l l.length ≤ n) : (pos b l)[n]? = none := List.getElem?_eq_none h
end
theorem sum_bits (l : List Bool) (a : Nat) : ∀ (k : Nat), a + k ≤ l.length → (((List.range k).map fun i => (((l.getD (a + i) false).toNat : Nat) : Int)).sum) = ((cn true l (a + k) : Nat) : Int) - (cn true l a : Nat)
  | 0, _ => by simp
  | k + 1, h => by
    have ih := sum_bits l a k (by omega)
    rw [List.range_succ, List.map_append, List.sum_append, ih, show a + (k + 1) = (a + k) + 1 from rfl, cn_succ]
    have e : l[a + k]? = some l[a + k] := List.getElem?_eq_getElem (by omega)
    simp only [List.map_cons, List.map_nil, List.sum_cons, List.sum_nil, List.getD_eq_getElem?_getD, e, Option.getD_some]
    cases hb : l[a + k] with
    | true =>
      rw [if_pos (bt_iff.mpr (by rw [e, hb]))]
      simp
      omega
    | false =>
      rw [if_neg (fun z => by rw [bt_iff.mp z] at e; rw [hb] at e; cases e)]
      simp
def on : Option Nat → V
  | some p => .int p
  | none => .non
theorem cn_all (b : Bool) : ∀ l : List Bool, cn b l l.length = l.count b
  | [] => rfl
  | x :: r => by
    have ih := cn_all b r
    unfold cn at ih ⊢
    have e2 : fr (fun i => bt b (x :: r) (1 + i)) r.length = fr (bt b r) r.length := fr_congr fun i _ => by
      unfold bt
      rw [Nat.add_comm 1 i, List.getElem?_cons_succ]
    have e3 : (fr (bt b (x :: r)) (0 + 1)).length = if x = b then 1 else 0 := by
      rw [fr_len_succ]
      show 0 + _ = _
      unfold bt
      by_cases h : x = b
      · simp [h]
      · simp [h]
    rw [List.length_cons, Nat.add_comm r.length 1, fr_add, e2, ih, List.count_cons, show (1 : Nat) = 0 + 1 from rfl, e3]
    by_cases h : x = b
    · simp [h]
      omega
    · simp [h]
theorem count_alt : ∀ k : Nat, ((List.replicate k [true, false]).flatten).count true = k ∧ ((List.replicate k [true, false]).flatten).length = 2 * k
  | 0 => ⟨rfl, rfl⟩
  | k + 1 => by
    obtain ⟨h1, h2⟩ := count_alt k
    rw [List.replicate_succ, List.flatten_cons]
    refine ⟨?_, ?_⟩
    · rw [List.count_append, h1]
      show 1 + k = k + 1
      omega
    · rw [List.length_append, h2]
      show 2 + 2 * k = _
      omega
def dOn : Option Nat → PyData
  | some p => .int p
  | none => .none
theorem dp_on {K : PySem.W.Frag} {H : Hp} (o : Option Nat) : Dp K H (on o) (dOn o) := by
  cases o with
  | none => exact .non
  | some p => exact .int _
theorem sh_on {n : Nat} (o : Option Nat) : Sh n (dOn o) := by
  cases o with
  | none => exact sh_non
  | some p => exact sh_int
theorem kept_list (L : List Nat) (g : Nat → Bool) (h : Nat → V) : kept L.length (fun i => g (L.getD i 0)) (fun i => h (L.getD i 0)) = (L.filter g).map h := by
  unfold kept
  have e : L = (List.range L.length).map fun i => L.getD i 0 := by
    refine List.ext_getElem (by simp) fun i h1 h2 => ?_
    simp [List.getD_eq_getElem?_getD, List.getElem?_eq_getElem h1]
  conv => rhs; rw [e]
  rw [List.filter_map, List.map_map]
  rfl
theorem first_on (A : List Nat) : atI (A.map (fun (i : Nat) => V.int i) ++ [.non]) 0 = some (on A[0]?) := by
  cases A with
  | nil => rfl
  | cons a A => exact atI_nat (j := 0) rfl
theorem last_on (A : List Nat) : atI ([.non] ++ A.map (fun (i : Nat) => V.int i)) (-1) = some (on (if A.length = 0 then none else A[A.length - 1]?)) := by
  rcases List.eq_nil_or_concat A with h | ⟨B, b, h⟩
  · subst h
    rfl
  · have h : A = B ++ [b] := by rw [h, List.concat_eq_append]
    subst h
    rw [List.map_append, ← List.append_assoc]
    have hl : (B ++ [b]).length = B.length + 1 := by simp
    rw [hl, if_neg (by omega), Nat.add_sub_cancel, List.getElem?_append_right (Nat.le_refl _), Nat.sub_self]
    exact atI_last _ _
/-! ### counted signs -/
open StrLaws Builtin Builtin.Str in
theorem occ_one (x : Str) (c limit : Nat) : ∀ (k i : Nat) (st : Array Nat × Nat), st.2 ≤ i → st.1.size + k ≤ limit →
    (forIn (List.range' i k) st (occBody x ⟨#[c]⟩ x.length limit)).run.fst.toList = st.fst.toList ++ (List.range' i k).filter (fun j => x.cps.toList[j]? == some c)
  | 0, i, st, _, _ => by simp
  | k + 1, i, st, h1, h2 => by
    rw [List.range'_succ, List.forIn_cons]
    unfold occBody
    by_cases hc : x.cps.toList[i]? = some c
    · have hs := (subAt_one x c i).mpr hc
      rw [if_pos ⟨⟨⟨by omega, h1⟩, hs.1⟩, hs.2⟩]
      have ih := occ_one x c limit k (i + 1) (st.fst.push i, i + (⟨#[c]⟩ : Str).length) (Nat.le_refl _) (by rw [Array.size_push]; omega)
      rw [List.filter_cons, if_pos (beq_iff_eq.mpr hc)]
      refine Eq.trans ih ?_
      rw [Array.toList_push, List.append_assoc]
      rfl
    · rw [if_neg (fun z => hc ((subAt_one x c i).mp ⟨z.1.2, z.2⟩))]
      have ih := occ_one x c limit k (i + 1) (st.fst, st.snd) (Nat.le_succ_of_le h1) (by show st.1.size + k ≤ limit; omega)
      rw [List.filter_cons, if_neg (fun z => hc (beq_iff_eq.mp z))]
      exact ih
theorem count_sign (l : List Bool) (b : Bool) : Txt.count (sb l) (sb [b]) = (cn b l l.length : Int) := by
  have e1 : sb [b] = ⟨#[bc b]⟩ := rfl
  unfold Txt.count
  rw [e1, StrLaws.occ_eq, occ_one (sb l) (bc b) ((sb l).length + 1) ((sb l).length + 1 - 0) 0 (#[], 0) (Nat.le_refl _) (by show 0 + ((sb l).length + 1 - 0) ≤ _; omega)]
  congr 1
  show (([] : List Nat) ++ (List.range' 0 ((sb l).length + 1 - 0)).filter _).length = (fr (bt b l) l.length).length
  rw [List.nil_append, Nat.sub_zero, sb_len, ← List.range_eq_range', List.range_succ, List.filter_append]
  have h0 : (sb l).cps.toList = l.map bc := rfl
  rw [h0]
  have h1 : List.filter (fun j => (l.map bc)[j]? == some (bc b)) [l.length] = [] := by
    rw [List.filter_cons, List.getElem?_eq_none (by rw [List.length_map]; exact Nat.le_refl _)]
    rfl
  rw [h1, List.append_nil]
  congr 1
  refine List.filter_congr fun i hi => ?_
  unfold bt
  rw [List.getElem?_map]
  cases l[i]? with
  | none => rfl
  | some c => cases c <;> cases b <;> rfl
theorem cn_take {b : Bool} {l : List Bool} {a : Nat} (h : a ≤ l.length) : cn b (l.take a) (l.take a).length = cn b l a := by
  rw [List.length_take, Nat.min_eq_left h]
  unfold cn
  rw [fr_congr fun i hi => ?_]
  unfold bt
  rw [List.getElem?_take, if_pos hi]
theorem count_bit (l : List Bool) : Txt.count (sb l) "1" = (cn true l l.length : Int) := by
  have e1 : (Str.ofString "1" : Str) = ⟨#[49]⟩ := by decide +kernel
  unfold Txt.count
  rw [e1, StrLaws.occ_eq, occ_one (sb l) 49 ((sb l).length + 1) ((sb l).length + 1 - 0) 0 (#[], 0) (Nat.le_refl _) (by show 0 + ((sb l).length + 1 - 0) ≤ _; omega)]
  congr 1
  show (([] : List Nat) ++ (List.range' 0 ((sb l).length + 1 - 0)).filter _).length = (fr (bt true l) l.length).length
  rw [List.nil_append, Nat.sub_zero, sb_len, ← List.range_eq_range', List.range_succ, List.filter_append]
  have h0 : (sb l).cps.toList = l.map bc := rfl
  rw [h0]
  have h1 : List.filter (fun j => (l.map bc)[j]? == some 49) [l.length] = [] := by
    rw [List.filter_cons, List.getElem?_eq_none (by rw [List.length_map]; exact Nat.le_refl _)]
    rfl
  rw [h1, List.append_nil]
  congr 1
  refine List.filter_congr fun i hi => ?_
  unfold bt
  rw [List.getElem?_map]
  cases l[i]? with
  | none => rfl
  | some b => cases b <;> rfl
end Tw

set_option maxHeartbeats 4000000
namespace Tw
open PySem PySem.Spec PyProof.Rows L2 LamX
/-! ### depths along the bits -/
def dq (l : List Bool) (i : Nat) : Int := dp (l.take i)
section
variable {l : List Bool} {i j p c e t k : Nat}
theorem dq_zero : dq l 0 = 0 := rfl
theorem dq_len : dq l l.length = dp l := by unfold dq; rw [List.take_length]
theorem dq_succ {b : Bool} (h : l[i]? = some b) : dq l (i + 1) = dq l i + 2 * (b.toNat : Int) - 1 := by
  unfold dq
  rw [List.take_add_one, h]
  exact dp_snoc _ _
theorem dq_up (h : l[i]? = some true) : dq l (i + 1) = dq l i + 1 := by
  rw [dq_succ h]
  show _ + 2 * ((1 : Nat) : Int) - 1 = _
  omega
theorem dq_dn (h : l[i]? = some false) : dq l (i + 1) = dq l i - 1 := by
  rw [dq_succ h]
  show _ + 2 * ((0 : Nat) : Int) - 1 = _
  omega
theorem bit_of (h : i < l.length) : l[i]? = some true ∨ l[i]? = some false := by
  rw [List.getElem?_eq_getElem h]
  cases l[i]
  · exact .inr rfl
  · exact .inl rfl
theorem len_of {b : Bool} (h : l[i]? = some b) : i < l.length := (List.getElem?_eq_some_iff.mp h).1
theorem dq_cn (h : i ≤ l.length) : dq l i = 2 * (cn true l i : Int) - i := by
  induction i with
  | zero => rfl
  | succ i ih =>
    have ih := ih (by omega)
    rw [cn_succ]
    rcases bit_of (show i < l.length by omega) with hb | hb
    · rw [dq_up hb, ih, if_pos (bt_iff.mpr hb)]
      omega
    · rw [dq_dn hb, ih, if_neg (fun z => by rw [bt_iff.mp z] at hb; cases hb)]
      omega
theorem okT.dq0 (W : okT l) (h : i ≤ l.length) : 0 ≤ dq l i := by
  by_cases h0 : i = 0
  · subst h0; exact Int.le_refl _
  · by_cases h1 : i = l.length
    · subst h1
      rw [dq_len, W.fin]
      exact Int.le_refl _
    · have := W.mid i (by omega) (by omega)
      show 0 ≤ dp (l.take i)
      omega
theorem okT.dq1 (W : okT l) (h0 : 0 < i) (h : i < l.length) : 1 ≤ dq l i := W.mid i h0 h
theorem okT.dqT (W : okT l) (h : i ≤ l.length) : dq l i ≤ 200 := W.top i h
theorem okT.dqE (W : okT l) : dq l l.length = 0 := by rw [dq_len, W.fin]
theorem okT.len (W : okT l) : 2 * cn true l l.length = l.length := by
  have := dq_cn (l := l) (Nat.le_refl l.length)
  rw [W.dqE] at this
  omega
theorem okT.pos (W : okT l) : 2 ≤ l.length := by
  have h1 := W.len
  have : 0 < l.length := List.length_pos_iff.mpr W.ne
  omega
theorem okT.first (W : okT l) : l[0]? = some true := by
  have h := W.pos
  rcases bit_of (show 0 < l.length by omega) with h1 | h1
  · exact h1
  · have h2 : dq l 1 = dq l 0 - 1 := dq_dn h1
    have h3 := W.dq0 (i := 1) (by omega)
    rw [dq_zero] at h2
    omega
/-! ### the nodes that are open -/
def stk (l : List Bool) : Nat → List Nat
  | 0 => []
  | t + 1 => if l[t]? = some true then stk l t ++ [t] else (stk l t).dropLast
theorem stk_up (h : l[t]? = some true) : stk l (t + 1) = stk l t ++ [t] := if_pos h
theorem stk_dn (h : ¬ l[t]? = some true) : stk l (t + 1) = (stk l t).dropLast := if_neg h
theorem stk_len (W : okT l) (h : t ≤ l.length) : ((stk l t).length : Int) = dq l t := by
  induction t with
  | zero => rfl
  | succ t ih =>
    have ih := ih (by omega)
    rcases bit_of (show t < l.length by omega) with hb | hb
    · rw [stk_up hb, dq_up hb, List.length_append]
      show ((_ + 1 : Nat) : Int) = _
      omega
    · have := W.dq0 h
      rw [dq_dn hb] at this
      rw [stk_dn (by rw [hb]; decide), dq_dn hb, List.length_dropLast]
      omega
theorem stk_mem (h : c ∈ stk l t) : c < t ∧ l[c]? = some true := by
  induction t with
  | zero => cases h
  | succ t ih =>
    by_cases hb : l[t]? = some true
    · rw [stk_up hb] at h
      rcases List.mem_append.mp h with h | h
      · exact ⟨Nat.lt_succ_of_lt (ih h).1, (ih h).2⟩
      · have : c = t := by simpa using h
        subst this
        exact ⟨Nat.lt_succ_self _, hb⟩
    · rw [stk_dn hb] at h
      have h := List.dropLast_subset _ h
      exact ⟨Nat.lt_succ_of_lt (ih h).1, (ih h).2⟩
theorem stk_pre (h : (stk l t)[k]? = some c) : stk l c = (stk l t).take k := by
  induction t with
  | zero => cases h
  | succ t ih =>
    by_cases hb : l[t]? = some true
    · rw [stk_up hb] at h ⊢
      rcases snoc_at h with h | ⟨h1, h2⟩
      · rw [List.take_append_of_le_length (Nat.le_of_lt (List.getElem?_eq_some_iff.mp h).1)]
        exact ih h
      · subst h1 h2
        rw [List.take_append_of_le_length (Nat.le_refl _), List.take_length]
    · rw [stk_dn hb] at h ⊢
      have hk : k < (stk l t).length - 1 := by
        have := (List.getElem?_eq_some_iff.mp h).1
        rw [List.length_dropLast] at this
        exact this
      rw [List.dropLast_eq_take, List.getElem?_take_of_lt hk] at h
      rw [List.dropLast_eq_take, List.take_take, Nat.min_eq_left (by omega)]
      exact ih h
/-- no node is opened again -/
theorem stk_keep (h : p ∈ stk l t) (hp : p < i) (hi : i ≤ t) : p ∈ stk l i := by
  induction t with
  | zero => cases h
  | succ t ih =>
    by_cases e : i = t + 1
    · rw [e]; exact h
    · refine ih ?_ (by omega)
      by_cases hb : l[t]? = some true
      · rw [stk_up hb] at h
        rcases List.mem_append.mp h with h | h
        · exact h
        · have : p = t := by simpa using h
          omega
      · rw [stk_dn hb] at h
        exact List.dropLast_subset _ h
theorem stk_inc : (stk l t).Pairwise (· < ·) := by
  induction t with
  | zero => exact List.Pairwise.nil
  | succ t ih =>
    by_cases hb : l[t]? = some true
    · rw [stk_up hb, List.pairwise_append]
      refine ⟨ih, List.pairwise_singleton _ _, fun a ha b hb => ?_⟩
      have : b = t := by simpa using hb
      subst this
      exact (stk_mem ha).1
    · rw [stk_dn hb]
      exact ih.sublist (List.dropLast_sublist _)
theorem stk_nd : (stk l t).Nodup := stk_inc.imp fun h => Nat.ne_of_lt h
/-! ### where a node ends -/
/-- the first place from j on whose bit leads down to d -/
def fd (l : List Bool) (j : Nat) (d : Int) : Option Nat := (List.range l.length).find? fun i => decide (j ≤ i ∧ dq l (i + 1) = d)
theorem fd_some {d : Int} (h1 : j ≤ i) (h2 : i < l.length) (h3 : dq l (i + 1) = d) (h4 : ∀ k, j ≤ k → k < i → dq l (k + 1) ≠ d) : fd l j d = some i := by
  unfold fd
  rw [List.find?_range_eq_some]
  refine ⟨decide_eq_true ⟨h1, h3⟩, List.mem_range.mpr h2, fun k hk => ?_⟩
  rw [Bool.not_eq_true', decide_eq_false_iff_not]
  exact fun z => h4 k z.1 hk z.2
theorem fd_none {d : Int} (h : ∀ k, j ≤ k → k < l.length → dq l (k + 1) ≠ d) : fd l j d = none := by
  unfold fd
  rw [List.find?_range_eq_none]
  intro k hk
  rw [Bool.not_eq_true', decide_eq_false_iff_not]
  exact fun z => h k z.1 hk z.2
def en (l : List Bool) (p : Nat) : Nat := (fd l p (dq l p)).getD 0
structure Ends (l : List Bool) (p e : Nat) : Prop where
  lt : p < e
  le : e < l.length
  at_ : dq l (e + 1) = dq l p
  up : ∀ i, p < i → i ≤ e → dq l p < dq l i
theorem ends_ex (W : okT l) (hp : l[p]? = some true) : ∃ e, Ends l p e := by
  have hl := len_of hp
  have step : ∀ n, p + 1 ≤ n → n ≤ l.length → (∀ i, p < i → i ≤ n → dq l p < dq l i) ∨ ∃ e, e < n ∧ Ends l p e := fun n h1 h2 => by
    induction n with
    | zero => omega
    | succ n ih =>
      by_cases h0 : n = p
      · left
        intro i hi1 hi2
        have : i = p + 1 := by omega
        rw [this, dq_up hp]
        omega
      · rcases ih (by omega) (by omega) with h | ⟨e, he, hE⟩
        · have hn := h n (by omega) (Nat.le_refl _)
          rcases bit_of (show n < l.length by omega) with hb | hb
          · left
            intro i hi1 hi2
            by_cases hi : i = n + 1
            · rw [hi, dq_up hb]
              omega
            · exact h i hi1 (by omega)
          · by_cases hd : dq l (n + 1) = dq l p
            · exact .inr ⟨n, Nat.lt_succ_self _, by omega, by omega, hd, h⟩
            · left
              intro i hi1 hi2
              by_cases hi : i = n + 1
              · rw [hi]
                have := dq_dn hb
                omega
              · exact h i hi1 (by omega)
        · exact .inr ⟨e, Nat.lt_succ_of_lt he, hE⟩
  rcases step l.length hl (Nat.le_refl _) with h | ⟨e, _, h⟩
  · have h1 := h l.length hl (Nat.le_refl _)
    have h2 := W.dq0 (Nat.le_of_lt hl)
    rw [W.dqE] at h1
    omega
  · exact ⟨e, h⟩
theorem Ends.fd (E : Ends l p e) : fd l p (dq l p) = some e := fd_some (Nat.le_of_lt E.lt) E.le E.at_ fun k h1 h2 z => by
  have := E.up (k + 1) (by omega) (by omega)
  omega
theorem Ends.en (E : Ends l p e) : en l p = e := by unfold Tw.en; rw [E.fd]; rfl
theorem ends_en (W : okT l) (hp : l[p]? = some true) : Ends l p (en l p) := by
  obtain ⟨e, E⟩ := ends_ex W hp
  rw [E.en]
  exact E
theorem Ends.pre (W : okT l) (hp : l[p]? = some true) (E : Ends l p e) (h1 : p < i) (h2 : i ≤ e) : ∃ r, stk l i = stk l p ++ [p] ++ r := by
  induction i with
  | zero => omega
  | succ i ih =>
    by_cases h0 : i = p
    · subst h0
      exact ⟨[], by rw [stk_up hp, List.append_nil]⟩
    · obtain ⟨r, hr⟩ := ih (by omega) (by omega)
      by_cases hb : l[i]? = some true
      · exact ⟨r ++ [i], by rw [stk_up hb, hr, List.append_assoc]⟩
      · have hlen := stk_len W (t := i + 1) (by have := E.le; omega)
        have hlp := stk_len W (t := p) (Nat.le_of_lt (len_of hp))
        have h3 := E.up (i + 1) h1 h2
        rw [stk_dn hb, hr, List.length_dropLast, List.length_append, List.length_append] at hlen
        have hlen : (((stk l p).length + 1 + r.length - 1 : Nat) : Int) = dq l (i + 1) := hlen
        have hr0 : r ≠ [] := fun z => by subst z; simp at hlen; omega
        exact ⟨r.dropLast, by rw [stk_dn hb, hr, List.dropLast_append_of_ne_nil hr0]⟩
theorem Ends.last (W : okT l) (hp : l[p]? = some true) (E : Ends l p e) : stk l e = stk l p ++ [p] ∧ l[e]? = some false ∧ stk l (e + 1) = stk l p := by
  obtain ⟨r, hr⟩ := E.pre W hp E.lt (Nat.le_refl _)
  have hb : l[e]? = some false := by
    rcases bit_of E.le with hb | hb
    · have := dq_up hb
      have := E.up e E.lt (Nat.le_refl _)
      have := E.at_
      omega
    · exact hb
  have hlen := stk_len W (t := e) (Nat.le_of_lt E.le)
  have hlp := stk_len W (t := p) (Nat.le_of_lt (len_of hp))
  have hd := dq_dn hb
  have ha := E.at_
  rw [hr, List.length_append, List.length_append] at hlen
  have hlen : (((stk l p).length + 1 + r.length : Nat) : Int) = dq l e := hlen
  have hr0 : r = [] := List.eq_nil_of_length_eq_zero (by omega)
  subst hr0
  rw [List.append_nil] at hr
  refine ⟨hr, hb, ?_⟩
  rw [stk_dn (by rw [hb]; decide), hr, List.dropLast_concat]
theorem open_iff (W : okT l) (hp : l[p]? = some true) (ht : t ≤ l.length) : p ∈ stk l t ↔ p < t ∧ t ≤ en l p := by
  have E := ends_en W hp
  constructor
  · intro h
    refine ⟨(stk_mem h).1, ?_⟩
    rcases Nat.lt_or_ge (en l p) t with h1 | h1
    · have h2 := stk_keep h (Nat.lt_succ_of_lt E.lt) h1
      rw [(E.last W hp).2.2] at h2
      exact absurd (stk_mem h2).1 (Nat.lt_irrefl _)
    · exact h1
  · rintro ⟨h1, h2⟩
    obtain ⟨r, hr⟩ := E.pre W hp h1 h2
    rw [hr]
    exact List.mem_append_left _ (List.mem_append_right _ (List.mem_singleton.mpr rfl))
/-! ### who is above -/
def up (l : List Bool) (p : Nat) : Option Nat := (stk l p).getLast?
def isCh (l : List Bool) (p c : Nat) : Bool := bt true l c && (up l c == some p)
def below (l : List Bool) (p : Nat) : List Nat := fr (isCh l p) l.length
theorem isCh_iff : isCh l p c = true ↔ l[c]? = some true ∧ up l c = some p := by
  unfold isCh
  rw [Bool.and_eq_true, bt_iff, beq_iff_eq]
theorem up_mem (h : up l c = some p) : p ∈ stk l c := List.mem_of_getLast? h
theorem up_stk (h : up l c = some p) : stk l c = stk l p ++ [p] := by
  have h2 := h
  unfold up at h2
  rw [List.getLast?_eq_getElem?] at h2
  have h3 := stk_pre h2
  have hne : stk l c ≠ [] := fun z => by rw [z] at h2; cases h2
  have h4 := List.dropLast_concat_getLast hne
  rw [List.dropLast_eq_take, ← h3] at h4
  unfold up at h
  rw [List.getLast?_eq_some_getLast hne] at h
  rw [Option.some.inj h] at h4
  exact h4.symm
theorem no_child (W : okT l) (hp : l[p]? = some true) (h : en l p < c) (hc : c < l.length) : isCh l p c = false := by
  rw [← Bool.not_eq_true, isCh_iff]
  rintro ⟨h1, h2⟩
  have := ((open_iff W hp (Nat.le_of_lt hc)).mp (up_mem h2)).2
  omega
/-- between a child and its end there is none -/
theorem no_child2 (W : okT l) (hc : isCh l p c = true) (h1 : c < i) (h2 : i ≤ en l c) : isCh l p i = false := by
  obtain ⟨hc1, hc2⟩ := isCh_iff.mp hc
  have E := ends_en W hc1
  rw [← Bool.not_eq_true, isCh_iff]
  rintro ⟨h3, h4⟩
  have h5 := (open_iff W hc1 (t := i) (Nat.le_of_lt (len_of h3))).mpr ⟨h1, h2⟩
  have h6 := stk_inc (l := l) (t := i)
  rw [up_stk h4] at h5 h6
  have hpc := (stk_mem (up_mem hc2)).1
  rcases List.mem_append.mp h5 with h7 | h7
  · have := (List.pairwise_append.mp h6).2.2 c h7 p (List.mem_singleton.mpr rfl)
    omega
  · have : c = p := by simpa using h7
    omega
/-- behind a child's end: the next one, or none any more -/
theorem next_child (W : okT l) (hc : isCh l p c = true) (hb : l[en l c + 1]? = some true) : isCh l p (en l c + 1) = true := by
  obtain ⟨hc1, hc2⟩ := isCh_iff.mp hc
  refine isCh_iff.mpr ⟨hb, ?_⟩
  unfold up
  rw [((ends_en W hc1).last W hc1).2.2]
  exact hc2
theorem last_child (W : okT l) (hc : isCh l p c = true) (hb : ¬ l[en l c + 1]? = some true) (h : en l c < i) : isCh l p i = false := by
  obtain ⟨hc1, hc2⟩ := isCh_iff.mp hc
  rw [← Bool.not_eq_true, isCh_iff]
  rintro ⟨h3, h4⟩
  have E := (ends_en W hc1).last W hc1
  have hpc := (stk_mem (up_mem hc2)).1
  have hlt := (ends_en W hc1).lt
  by_cases h0 : i = en l c + 1
  · rw [h0] at h3
    exact hb h3
  · have h5 := stk_keep (up_mem h4) (show p < en l c + 2 by omega) (by omega)
    rw [stk_dn hb, E.2.2, up_stk hc2, List.dropLast_concat] at h5
    exact absurd (stk_mem h5).1 (Nat.lt_irrefl _)
theorem first_child (W : okT l) (hp : l[p]? = some true) : (l[p + 1]? = some true → isCh l p (p + 1) = true) ∧ (l[p + 1]? = some false → ∀ i, isCh l p i = false) := by
  constructor
  · intro h
    refine isCh_iff.mpr ⟨h, ?_⟩
    unfold up
    rw [stk_up hp, List.getLast?_concat]
  · intro h i
    rw [← Bool.not_eq_true, isCh_iff]
    rintro ⟨h3, h4⟩
    have h1 := (stk_mem (up_mem h4)).1
    by_cases h0 : i = p + 1
    · rw [h0, h] at h3; cases h3
    · have h5 := stk_keep (up_mem h4) (show p < p + 2 by omega) (by omega)
      rw [stk_dn (by rw [h]; decide), stk_up hp, List.dropLast_concat] at h5
      exact absurd (stk_mem h5).1 (Nat.lt_irrefl _)
theorem next_bit (W : okT l) (hp : l[p]? = some true) : p + 1 < l.length := by
  have E := ends_en W hp
  have := E.lt
  have := E.le
  omega
theorem fr_skip {f : Nat → Bool} {a b : Nat} (h : a ≤ b) (h2 : ∀ i, a ≤ i → i < b → f i = false) : fr f b = fr f a := by
  induction b with
  | zero => rw [Nat.le_zero.mp h]
  | succ b ih =>
    by_cases e : a = b + 1
    · rw [e]
    · rw [fr_succ, if_neg (by rw [h2 b (by omega) (by omega)]; decide), List.append_nil]
      exact ih (by omega) fun i h3 h4 => h2 i h3 (by omega)
theorem child_lt (h : isCh l p c = true) : p < c := (stk_mem (up_mem (isCh_iff.mp h).2)).1
/-! ### the places of a depth ahead -/
def la (l : List Bool) (j : Nat) (d : Int) : Option Nat := ((List.range j).filter fun i => decide (dq l i = d)).getLast?
theorem la_some {d : Int} (h1 : i < j) (h2 : dq l i = d) (h3 : ∀ k, i < k → k < j → dq l k ≠ d) : la l j d = some i := by
  unfold la
  have e : ∀ n, i < n → n ≤ j → ((List.range n).filter fun i => decide (dq l i = d)) = ((List.range i).filter fun i => decide (dq l i = d)) ++ [i] := fun n hn hj => by
    induction n with
    | zero => omega
    | succ n ih =>
      rw [List.range_succ, List.filter_append]
      by_cases h0 : i = n
      · subst h0
        rw [List.filter_cons, if_pos (decide_eq_true h2)]
        rfl
      · rw [ih (by omega) (by omega), List.filter_cons, if_neg (by rw [decide_eq_true_eq]; exact h3 n (by omega) (by omega))]
        exact List.append_nil _
  rw [e j h1 (Nat.le_refl _), List.getLast?_concat]
theorem stk_dq (W : okT l) (h : (stk l t)[k]? = some c) (ht : t ≤ l.length) : dq l c = k := by
  have h1 := stk_pre h
  have hk := (List.getElem?_eq_some_iff.mp h).1
  have hc := stk_mem (List.mem_of_getElem? h)
  have h2 := stk_len W (t := c) (by omega)
  rw [h1, List.length_take, Nat.min_eq_left (Nat.le_of_lt hk)] at h2
  exact h2.symm
theorem stk_la (W : okT l) (h : (stk l t)[k]? = some c) (ht : t ≤ l.length) : la l t k = some c := by
  have hc := stk_mem (List.mem_of_getElem? h)
  refine la_some hc.1 (stk_dq W h ht) fun j h1 h2 z => ?_
  have hm := stk_keep (List.mem_of_getElem? h) h1 (Nat.le_of_lt h2)
  have E := ends_en W hc.2
  obtain ⟨r, hr⟩ := E.pre W hc.2 h1 ((open_iff W hc.2 (by omega)).mp hm).2
  have h3 := stk_len W (t := j) (by omega)
  have h4 := stk_len W (t := c) (by omega)
  rw [hr, List.length_append, List.length_append] at h3
  have h3 : (((stk l c).length + 1 + r.length : Nat) : Int) = dq l j := h3
  have h5 := stk_dq W h ht
  omega
/-! ### the least depth of a block -/
def lowF (l : List Bool) (b : Nat) : Nat → Int
  | 0 => l.length
  | k + 1 => if dq l (b * 32 + k + 1) < lowF l b k then dq l (b * 32 + k + 1) else lowF l b k
def lw (l : List Bool) (b : Nat) : Nat := (lowF l b 32).toNat
def lws (l : List Bool) : List Nat := (List.range (l.length / 32)).map (lw l)
theorem low_le {b : Nat} : ∀ {n : Nat}, lowF l b n ≤ l.length ∧ ∀ k, k < n → lowF l b n ≤ dq l (b * 32 + k + 1)
  | 0 => ⟨Int.le_refl _, fun k h => by omega⟩
  | n + 1 => by
    obtain ⟨h1, h2⟩ := low_le (b := b) (n := n)
    have e : lowF l b (n + 1) = if dq l (b * 32 + n + 1) < lowF l b n then dq l (b * 32 + n + 1) else lowF l b n := rfl
    rw [e]
    refine ⟨by split <;> omega, fun k hk => ?_⟩
    by_cases hkn : k = n
    · subst hkn
      split <;> omega
    · have := h2 k (by omega)
      split <;> omega
theorem low_ge {b : Nat} (W : okT l) : ∀ {n : Nat}, b * 32 + n ≤ l.length → 0 ≤ lowF l b n
  | 0, _ => by show (0 : Int) ≤ (l.length : Int); omega
  | n + 1, h => by
    have h1 := low_ge (b := b) W (n := n) (by omega)
    have h2 := W.dq0 (i := b * 32 + n + 1) (by omega)
    have e : lowF l b (n + 1) = if dq l (b * 32 + n + 1) < lowF l b n then dq l (b * 32 + n + 1) else lowF l b n := rfl
    rw [e]
    split <;> omega
theorem lw_le {b : Nat} (W : okT l) (h : b < l.length / 32) : ((lw l b : Nat) : Int) ≤ l.length ∧ ∀ k, k < 32 → ((lw l b : Nat) : Int) ≤ dq l (b * 32 + k + 1) := by
  have h1 := low_ge (b := b) W (n := 32) (by omega)
  unfold lw
  rw [Int.toNat_of_nonneg h1]
  exact low_le
theorem lw_nd {b : Nat} (W : okT l) (h : b < l.length / 32) : nd (lw l b) ≤ nd l.length := by
  have h1 := (lw_le W h).1
  have h2 : l.length < 2 ^ nd l.length := (nd_le _ _).mp (Nat.le_refl _)
  refine (nd_le _ _).mpr ?_
  omega
theorem lws_len : (lws l).length = l.length / 32 := by unfold lws; rw [List.length_map, List.length_range]
theorem lws_get {b : Nat} (h : b < l.length / 32) : (lws l)[b]? = some (lw l b) := by
  unfold lws
  rw [List.getElem?_map, List.getElem?_range h]
  rfl
/-! ### a node's own nodes -/
def own (l : List Bool) (p : Nat) : List Nat := (fr (bt true l) (en l p + 1)).drop (cn true l p)
def many (l : List Bool) (p : Nat) : Nat := (en l p + 1 - p) / 2
theorem cn_many (W : okT l) (hp : l[p]? = some true) : cn true l (en l p + 1) = cn true l p + many l p ∧ 2 * many l p = en l p + 1 - p := by
  have E := ends_en W hp
  have h1 := E.at_
  have h2 := E.le
  have h3 := E.lt
  rw [dq_cn (by omega), dq_cn (by omega)] at h1
  have h4 : cn true l p ≤ cn true l (en l p + 1) := cn_mono (by omega)
  unfold many
  omega
theorem own_get (W : okT l) (hp : l[p]? = some true) (h : i < many l p) : ∃ c, (pos true l)[cn true l p + i]? = some c ∧ (own l p)[i]? = some c ∧ l[c]? = some true ∧ p ≤ c ∧ c ≤ en l p := by
  have E := ends_en W hp
  obtain ⟨h1, h2⟩ := cn_many W hp
  have ht : (pos true l).take (cn true l (en l p + 1)) = fr (bt true l) (en l p + 1) := fr_take E.le
  have hl : (fr (bt true l) (en l p + 1)).length = cn true l p + many l p := h1
  have hx : cn true l p + i < (fr (bt true l) (en l p + 1)).length := by omega
  refine ⟨(fr (bt true l) (en l p + 1))[cn true l p + i], ?_, ?_, ?_⟩
  · rw [← List.getElem?_eq_getElem hx, ← ht, List.getElem?_take_of_lt (by omega)]
  · unfold own
    rw [List.getElem?_drop, List.getElem?_eq_getElem hx]
  · have hm := fr_mem.mp (List.getElem_mem hx)
    refine ⟨bt_iff.mp hm.2, ?_, by omega⟩
    have h3 : (fr (bt true l) (en l p + 1)).filter (fun i => decide (i ≥ p)) = (fr (bt true l) (en l p + 1)).drop (fr (bt true l) p).length := fr_ge (by have := E.lt; omega)
    have h4 : (fr (bt true l) (en l p + 1))[cn true l p + i] ∈ (fr (bt true l) (en l p + 1)).drop (fr (bt true l) p).length := List.mem_drop_iff_getElem.mpr ⟨i, by show i + cn true l p < _; omega, by congr 1⟩
    rw [← h3] at h4
    exact of_decide_eq_true (List.mem_filter.mp h4).2
theorem ownN_len (W : okT l) (hp : l[p]? = some true) : (own l p).length = many l p := by
  unfold own
  rw [List.length_drop]
  show cn true l (en l p + 1) - cn true l p = _
  rw [(cn_many W hp).1]
  omega
theorem own_eq (W : okT l) (hp : l[p]? = some true) : own l p = (pos true l).filter fun c => decide (p ≤ c ∧ c ≤ en l p) := by
  have E := ends_en W hp
  have h1 : (fr (bt true l) (en l p + 1)).filter (fun i => decide (i ≥ p)) = (fr (bt true l) (en l p + 1)).drop (fr (bt true l) p).length := fr_ge (by have := E.lt; omega)
  have h2 : (pos true l).filter (fun i => decide (i < en l p + 1)) = fr (bt true l) (en l p + 1) := fr_lt E.le
  unfold own
  rw [show cn true l p = (fr (bt true l) p).length from rfl, ← h1, ← h2, List.filter_filter]
  refine List.filter_congr fun c _ => ?_
  rw [Bool.eq_iff_iff]
  simp only [Bool.and_eq_true, decide_eq_true_eq]
  omega
theorem own_mem (W : okT l) (hp : l[p]? = some true) : c ∈ own l p ↔ l[c]? = some true ∧ p ≤ c ∧ c ≤ en l p := by
  rw [own_eq W hp, List.mem_filter, decide_eq_true_eq]
  unfold pos
  rw [fr_mem, bt_iff]
  exact ⟨fun h => ⟨h.1.2, h.2⟩, fun h => ⟨⟨len_of h.1, h.1⟩, h.2⟩⟩
def leaf (l : List Bool) (c : Nat) : Bool := l[c + 1]? == some false
def leaves (l : List Bool) (p : Nat) : Nat := ((own l p).filter (leaf l)).length
theorem leaf_iff (W : okT l) (hp : l[p]? = some true) : leaf l p = true ↔ below l p = [] := by
  unfold leaf
  rw [beq_iff_eq]
  obtain ⟨h1, h2⟩ := first_child W hp
  constructor
  · intro h
    unfold below fr
    rw [List.filter_eq_nil_iff]
    intro a _
    rw [h2 h a]
    decide
  · intro h
    rcases bit_of (next_bit W hp) with hb | hb
    · have : p + 1 ∈ below l p := fr_mem.mpr ⟨next_bit W hp, h1 hb⟩
      rw [h] at this
      cases this
    · exact hb
/-- the first of those furthest down -/
def dpF (l : List Bool) (os : List Nat) (p : Nat) : Nat := os.foldl (fun f o => if dq l f < dq l o then o else f) p
def dps (l : List Bool) (p : Nat) : Nat := dpF l (own l p) p
theorem dpF_mem : ∀ (os : List Nat) (p : Nat), dpF l os p = p ∨ dpF l os p ∈ os
  | [], p => .inl rfl
  | o :: os, p => by
    show dpF l os (if dq l p < dq l o then o else p) = p ∨ dpF l os (if dq l p < dq l o then o else p) ∈ o :: os
    split
    · rcases dpF_mem os o with h | h
      · exact .inr (by rw [h]; exact List.mem_cons_self)
      · exact .inr (List.mem_cons_of_mem _ h)
    · rcases dpF_mem os p with h | h
      · exact .inl h
      · exact .inr (List.mem_cons_of_mem _ h)
theorem dpF_le : ∀ (os : List Nat) (p : Nat), dq l p ≤ dq l (dpF l os p) ∧ ∀ o ∈ os, dq l o ≤ dq l (dpF l os p)
  | [], p => ⟨Int.le_refl _, fun o h => by cases h⟩
  | o :: os, p => by
    show dq l p ≤ dq l (dpF l os (if dq l p < dq l o then o else p)) ∧ ∀ x ∈ o :: os, dq l x ≤ dq l (dpF l os (if dq l p < dq l o then o else p))
    split
    · obtain ⟨h1, h2⟩ := dpF_le os o
      refine ⟨by omega, fun x hx => ?_⟩
      rcases List.mem_cons.mp hx with rfl | hx
      · exact h1
      · exact h2 x hx
    · obtain ⟨h1, h2⟩ := dpF_le os p
      refine ⟨h1, fun x hx => ?_⟩
      rcases List.mem_cons.mp hx with rfl | hx
      · omega
      · exact h2 x hx
/-- it is the first one of that depth -/
theorem dpF_first : ∀ (os : List Nat) (p : Nat), (p :: os).find? (fun o => decide (dq l o = dq l (dpF l os p))) = some (dpF l os p)
  | [], p => by
    show List.find? _ [p] = some p
    rw [List.find?_cons_of_pos]
    exact decide_eq_true rfl
  | o :: os, p => by
    have e : dpF l (o :: os) p = dpF l os (if dq l p < dq l o then o else p) := rfl
    by_cases h : dq l p < dq l o
    · rw [if_pos h] at e
      have h2 := (dpF_le (l := l) os o).1
      rw [e, List.find?_cons_of_neg (by rw [decide_eq_true_eq]; omega)]
      exact dpF_first os o
    · rw [if_neg h] at e
      have h2 := dpF_le (l := l) os p
      rw [e]
      have ih := dpF_first os p
      by_cases h3 : dq l p = dq l (dpF l os p)
      · rw [List.find?_cons_of_pos (by exact decide_eq_true h3)] at ih ⊢
        exact ih
      · rw [List.find?_cons_of_neg (by rw [decide_eq_true_eq]; exact h3)] at ih ⊢
        rw [List.find?_cons_of_neg (by rw [decide_eq_true_eq]; omega)]
        exact ih
def height (l : List Bool) (p : Nat) : Int := dq l (dps l p) - dq l p
end
end Tw

set_option maxHeartbeats 4000000
namespace Tw
open PySem PySem.Spec PyProof.Rows L2 LamX
/-! ### what the deeds of a wood tell -/
theorem la_none {l : List Bool} {j : Nat} {d : Int} (h : ∀ c, c < j → dq l c ≠ d) : la l j d = none := by
  unfold la
  rw [List.getLast?_eq_none_iff, List.filter_eq_nil_iff]
  intro c hc
  rw [decide_eq_true_eq]
  exact h c (List.mem_range.mp hc)
theorem dpF_snoc (l : List Bool) (os : List Nat) (o p : Nat) : dpF l (os ++ [o]) p = if dq l (dpF l os p) < dq l o then o else dpF l os p := by
  unfold dpF
  rw [List.foldl_append]
  rfl
theorem dps_one {l : List Bool} {j : Nat} (W : okT l) (hj : l[j]? = some true) : l[dps l j]? = some true := by
  unfold dps
  rcases dpF_mem (l := l) (own l j) j with h | h
  · rw [h]; exact hj
  · exact ((own_mem W hj).mp h).1
def ab (l : List Bool) (j s : Nat) : Option Nat := if s = 0 then some j else if (stk l j).length < s then none else (stk l j)[(stk l j).length - s]?
theorem ab_one {l : List Bool} {j : Nat} : ab l j 1 = up l j := by
  unfold ab up
  rw [if_neg (by decide), List.getLast?_eq_getElem?]
  split
  · rename_i h
    rw [List.getElem?_eq_none (by omega)]
  · rfl
def nx (l : List Bool) (j : Nat) : Option Nat := if l[en l j + 1]? = some true then some (en l j + 1) else none
def wh (l : List Bool) (j : Nat) : Option Nat := (up l j).map fun p => (fr (isCh l p) j).length
theorem flat_nats (L : List Nat) : (L.map fun i : Nat => V.int i).all flatV = true := by
  rw [List.all_eq_true]
  intro v hv
  obtain ⟨i, _, rfl⟩ := List.mem_map.mp hv
  rfl
theorem below_at {l : List Bool} {p j : Nat} (h : isCh l p j = true) : (below l p)[(fr (isCh l p) j).length]? = some j := fr_get (len_of (isCh_iff.mp h).1) h
theorem below_nd {l : List Bool} {p : Nat} : (below l p).Nodup := by
  unfold below fr
  exact List.Nodup.sublist List.filter_sublist List.nodup_range
theorem nodup_at {L : List Nat} (h : L.Nodup) {i k c : Nat} (h1 : L[i]? = some c) (h2 : L[k]? = some c) : i = k := by
  obtain ⟨hi, e1⟩ := List.getElem?_eq_some_iff.mp h1
  obtain ⟨hk, e2⟩ := List.getElem?_eq_some_iff.mp h2
  exact (List.getElem_inj h).mp (e1.trans e2.symm)
theorem up_one {l : List Bool} {j p : Nat} (h : up l j = some p) : l[p]? = some true := (stk_mem (up_mem h)).2
def lch (l : List Bool) (j : Nat) : Option Nat := (up l j).bind fun p => if (fr (isCh l p) j).length = 0 then none else (below l p)[(fr (isCh l p) j).length - 1]?
def isAb (l : List Bool) (i j : Nat) : Bool := decide (i ≤ j ∧ j ≤ en l i)
def ways (l : List Bool) (i : Nat) : List Nat := i :: (stk l i).reverse
def ab2 (l : List Bool) (i j : Nat) : Nat := ((ways l i).find? fun c => isAb l c j).getD 0
theorem ways_up {l : List Bool} {c b : Nat} (h : up l c = some b) : ways l c = c :: ways l b := by
  unfold ways
  rw [up_stk h, List.reverse_append]
  rfl
theorem root_all {l : List Bool} {j : Nat} (W : okT l) (hj : l[j]? = some true) : isAb l 0 j = true := by
  have E := ends_en W W.first
  have h1 := E.at_
  have h2 := E.le
  have h3 := len_of hj
  refine decide_eq_true ⟨Nat.zero_le _, ?_⟩
  by_cases h : en l 0 + 1 = l.length
  · omega
  · have := W.dq1 (i := en l 0 + 1) (by omega) (by omega)
    rw [h1, dq_zero] at this
    omega
theorem up_none {l : List Bool} {c : Nat} (W : okT l) (hc : l[c]? = some true) (h : up l c = none) : c = 0 := by
  unfold up at h
  rw [List.getLast?_eq_none_iff] at h
  have h1 := stk_len W (Nat.le_of_lt (len_of hc))
  rw [h] at h1
  rcases Nat.eq_zero_or_pos c with h0 | h0
  · exact h0
  · have := W.dq1 h0 (len_of hc)
    have h1 : (0 : Int) = dq l c := h1
    omega
def ln (l : List Bool) (j : Nat) : Option Nat := (pos true l).find? fun c => decide (j < c ∧ dq l c = dq l j)
theorem pos_at {l : List Bool} {k c : Nat} (h : (pos true l)[k]? = some c) : l[c]? = some true ∧ cn true l c = k := by
  have hm := fr_mem.mp (List.mem_of_getElem? h)
  have hc := bt_iff.mp hm.2
  refine ⟨hc, ?_⟩
  have hnd : (pos true l).Nodup := List.Nodup.sublist List.filter_sublist List.nodup_range
  exact nodup_at hnd (pos_get hc) h
theorem cn_lt {l : List Bool} {i j : Nat} (hi : l[i]? = some true) (h : i < j) : cn true l i < cn true l j := by
  have h1 : cn true l (i + 1) ≤ cn true l j := cn_mono h
  rw [cn_succ, if_pos (bt_iff.mpr hi)] at h1
  omega
theorem ln_some {l : List Bool} {j k c : Nat} (hj : l[j]? = some true) (hc : (pos true l)[k]? = some c) (hk : cn true l j < k) (hd : dq l c = dq l j) (hno : ∀ i d, cn true l j < i → i < k → (pos true l)[i]? = some d → dq l d ≠ dq l j) : ln l j = some c := by
  unfold ln
  obtain ⟨hk2, e⟩ := List.getElem?_eq_some_iff.mp hc
  rw [List.find?_eq_some_iff_getElem]
  refine ⟨decide_eq_true ⟨?_, hd⟩, k, hk2, e, fun i hi => ?_⟩
  · have h1 := (pos_at hc).2
    rcases Nat.lt_or_ge j c with h | h
    · exact h
    · have : cn true l c ≤ cn true l j := cn_mono h
      omega
  · rw [Bool.not_eq_true', decide_eq_false_iff_not]
    rintro ⟨h1, h2⟩
    have h3 : (pos true l)[i]? = some (pos true l)[i] := List.getElem?_eq_getElem (by omega)
    have h4 := (pos_at h3).2
    rcases Nat.lt_or_ge (cn true l j) i with h5 | h5
    · exact hno i _ h5 hi h3 h2
    · have := cn_lt hj h1
      omega
theorem pos_inc {l : List Bool} : (pos true l).Pairwise (· < ·) := by
  unfold pos fr
  exact List.Pairwise.sublist List.filter_sublist List.pairwise_lt_range
theorem getD_some {L : List Nat} {i c : Nat} (h : L[i]? = some c) : L.getD i 0 = c := by rw [List.getD_eq_getElem?_getD, h]; rfl
theorem scal_on : ∀ o o' : Option Nat, scal (on o) (on o') = true
  | none, none => rfl
  | none, some _ => rfl
  | some _, none => rfl
  | some _, some _ => rfl
theorem nself {v : V} (h : (!decide (v = v)) = true) : False := by
  rw [decide_eq_true rfl] at h
  cases h
theorem dp_nats {K : PySem.W.Frag} {H : Hp} {a : Addr} {L : List Nat} (e : H a = some (.lst (L.map fun i : Nat => .int i))) : Dp K H (.ref a) (.list ((L.map Int.ofNat).map .int)) := dp_ints (SqL.of (by rw [e, List.map_map]; rfl))
theorem nats_ext {L : List Nat} {n : Nat} (h : n = L.length) : ((List.range n).map fun i => V.int ((L.getD i 0 : Nat) : Int)) = L.map fun i : Nat => V.int i := by
  subst h
  refine List.ext_getElem (by simp) fun i h1 h2 => ?_
  have h3 : i < L.length := by simpa using h1
  simp [List.getD_eq_getElem?_getD, List.getElem?_eq_getElem h3]
theorem ab_ways {l : List Bool} {p s : Nat} : ab l p s = (ways l p)[s]? := by
  unfold ab ways
  cases s with
  | zero => rfl
  | succ k =>
    rw [if_neg (Nat.succ_ne_zero k), List.getElem?_cons_succ]
    by_cases h : k < (stk l p).length
    · rw [if_neg (by omega), List.getElem?_reverse h]
      congr 1
      omega
    · rw [if_pos (by omega), List.getElem?_eq_none (by rw [List.length_reverse]; omega)]
theorem isAb_ways {l : List Bool} {c j : Nat} (W : okT l) (hc : l[c]? = some true) (hj : l[j]? = some true) : isAb l c j = decide (c ∈ ways l j) := by
  rw [Bool.eq_iff_iff, decide_eq_true_eq]
  unfold isAb ways
  rw [decide_eq_true_eq, List.mem_cons, List.mem_reverse, open_iff W hc (Nat.le_of_lt (len_of hj))]
  have := (ends_en W hc).lt
  omega
theorem ways_one {l : List Bool} {c j : Nat} (hj : l[j]? = some true) (h : c ∈ ways l j) : l[c]? = some true := by
  unfold ways at h
  rcases List.mem_cons.mp h with rfl | h
  · exact hj
  · exact (stk_mem (List.mem_reverse.mp h)).2
theorem root_in {l : List Bool} {j : Nat} (W : okT l) (hj : l[j]? = some true) : 0 ∈ ways l j := by
  have h := root_all W hj
  rw [isAb_ways W W.first hj] at h
  exact of_decide_eq_true h
theorem shared_ab {l : List Bool} {i j : Nat} (W : okT l) (hi : l[i]? = some true) (hj : l[j]? = some true) : ((ways l i).filter fun c => decide (c ∈ ways l j))[0]? = some (ab2 l i j) := by
  rw [← List.head?_eq_getElem?, List.head?_filter]
  have e : (ways l i).find? (fun c => decide (c ∈ ways l j)) = (ways l i).find? fun c => isAb l c j := by
    have hall : ∀ c ∈ ways l i, isAb l c j = decide (c ∈ ways l j) := fun c hc => isAb_ways W (ways_one hi hc) hj
    generalize ways l i = A at hall ⊢
    induction A with
    | nil => rfl
    | cons a A ih =>
      have h1 := hall a List.mem_cons_self
      have ih := ih fun c hc => hall c (List.mem_cons_of_mem _ hc)
      rw [List.find?_cons, List.find?_cons, h1, ih]
  rw [e]
  unfold ab2
  cases h : (ways l i).find? fun c => isAb l c j with
  | some c => rfl
  | none =>
    rw [List.find?_eq_none] at h
    exact absurd (root_all W hj) (h 0 (root_in W hi))
theorem nx_below {l : List Bool} {b p : Nat} (W : okT l) (hc : isCh l b p = true) : nx l p = (below l b)[(fr (isCh l b) p).length + 1]? := by
  have hp := (isCh_iff.mp hc).1
  have E := ends_en W hp
  have e1 : fr (isCh l b) (p + 1) = fr (isCh l b) p ++ [p] := by rw [fr_succ, if_pos hc]
  unfold nx
  by_cases hb : l[en l p + 1]? = some true
  · rw [if_pos hb]
    have h1 := below_at (next_child W hc hb)
    have h2 : fr (isCh l b) (en l p + 1) = fr (isCh l b) (p + 1) := fr_skip (a := p + 1) (b := en l p + 1) (by have := E.lt; omega) fun i h1 h2 => no_child2 W hc (by omega) (by omega)
    rw [h2, e1, List.length_append] at h1
    exact h1.symm
  · rw [if_neg hb]
    have h2 : below l b = fr (isCh l b) (p + 1) := fr_skip (a := p + 1) (b := l.length) (len_of hp) fun i h1 h2 => by
      rcases Nat.lt_or_ge (en l p) i with h3 | h3
      · exact last_child W hc hb h3
      · exact no_child2 W hc (by omega) h3
    rw [h2, e1, List.getElem?_eq_none (by rw [List.length_append]; exact Nat.le_refl _)]
theorem nx_root {l : List Bool} {p : Nat} (W : okT l) (hp : l[p]? = some true) (h : up l p = none) : nx l p = none := by
  have h0 := up_none W hp h
  subst h0
  have E := ends_en W hp
  refine if_neg fun z => ?_
  have h1 := len_of z
  have h2 := W.dq1 (i := en l 0 + 1) (by omega) h1
  rw [E.at_, dq_zero] at h2
  omega
theorem own_head {l : List Bool} {p : Nat} (W : okT l) (hp : l[p]? = some true) : ∃ t, own l p = p :: t := by
  have hm : 0 < many l p := by
    have := (cn_many W hp).2
    have := (ends_en W hp).lt
    omega
  obtain ⟨c, h1, h2, _⟩ := own_get W hp hm
  rw [Nat.add_zero, pos_get hp] at h1
  cases h1
  cases h : own l p with
  | nil => rw [h] at h2; cases h2
  | cons a t =>
    rw [h] at h2
    cases h2
    exact ⟨t, rfl⟩
theorem own_deep {l : List Bool} {p : Nat} (W : okT l) (hp : l[p]? = some true) : ((own l p).filter fun c => decide (dq l c = dq l (dps l p)))[0]? = some (dps l p) := by
  rw [← List.head?_eq_getElem?, List.head?_filter]
  have h := dpF_first (l := l) (own l p) p
  obtain ⟨t, ht⟩ := own_head W hp
  unfold dps
  rw [ht] at h ⊢
  by_cases h2 : dq l p = dq l (dpF l (p :: t) p)
  · rw [List.find?_cons_of_pos (by exact decide_eq_true h2)] at h ⊢
    exact h
  · rw [List.find?_cons_of_neg (by rw [decide_eq_true_eq]; exact h2)] at h
    exact h
theorem inV_nats (c : Nat) : ∀ L : List Nat, inV (.int c) (L.map fun i : Nat => V.int i) = decide (c ∈ L)
  | [] => by rfl
  | x :: L => by
    have ih := inV_nats c L
    show (eqV (V.int x) (V.int c) || inV (.int c) (L.map fun i : Nat => V.int i)) = _
    rw [ih, Bool.eq_iff_iff, Bool.or_eq_true, decide_eq_true_eq, decide_eq_true_eq, List.mem_cons]
    have : eqV (V.int x) (V.int c) = true ↔ c = x := by
      show ((x : Int) == (c : Int)) = true ↔ _
      rw [beq_iff_eq]
      omega
    rw [this]
end Tw

set_option maxHeartbeats 4000000
namespace Tw
open PySem PySem.Spec PyProof.Rows L2 LamX
/-! ### text[::-1] -/
def tRevS (te : TE) : TE := fun σ H Q => te σ H fun x H1 => ∃ z, x = .str z ∧ z.length ≤ sizeLine ∧ Q (.str (S z.cps.toList.reverse)) H1
theorem rev_eq (z : Str) (u : Tok) : Txt.sliceBy z none none (-1, u) = S z.cps.toList.reverse := by
  have h := step_rev_list z u
  have e : Txt.sliceBy z none none (-1, u) = S (Txt.sliceBy z none none (-1, u)).cps.toList := S_of _
  rw [e, h]
  congr 1
  apply List.ext_getElem
  · simp [Str.length]
  · intro i h1 h2
    have h1 : i < z.cps.size := by simpa [Str.length] using h1
    rw [List.getElem_map, List.getElem_range, List.getElem_reverse]
    simp [Str.length, Array.getD]
    rw [dif_pos (by omega)]
theorem pe_revS {X : Cx} {e : Expr} {te : TE} {k : Nat} {p1 p2 p3 pos : Pos} (he : PE X e te) : PE X (.Subscript e (.Slice none none (some (.UnaryOp .USub (.Constant (.int 1) k p1) p2)) p3) pos) (tRevS te) := by
  refine ⟨fun pins s σ H Q I h => ?_⟩
  refine Subscript_ (thn (he.run pins s σ H _ I h) fun v s1 ⟨x, H1, I1, r1, q1⟩ => ?_)
  obtain ⟨z, ex, hz, q⟩ := q1
  subst ex
  obtain ⟨t, rfl⟩ := r1
  have hst : PO X (some (.UnaryOp .USub (.Constant (.int 1) k p1) p2)) (tPart (tUn (rU fun i => .int (-i)) (tC (.int 1)))) := po_some (pe_un un_neg pe_int)
  refine wpAny_Slice (thn (po_none.run pins s1 σ H1 (fun o H2 => o = none ∧ H2 = H1) I1 ⟨rfl, rfl⟩) fun vl s2 ⟨l, H2, I2, pl, el, e2⟩ => ?_)
  subst el e2
  refine thn (po_none.run pins s2 σ H2 (fun o H3 => o = none ∧ H3 = H2) I2 ⟨rfl, rfl⟩) fun vu s3 ⟨u, H3, I3, pu, eu, e3⟩ => ?_
  subst eu e3
  refine thn (hst.run pins s3 σ H3 (fun o H4 => o = some (-1) ∧ H4 = H3) I3 ⟨1, rfl, -1, rfl, rfl, rfl⟩) fun vs s4 ⟨o, H4, I4, ps, eo, e4⟩ => ?_
  subst eo e4
  have I5 : Inv X pins σ H4 { s4 with heap := s4.heap.push { cls := .type "slice", data := .fields #[vl, vu, vs] } } := I4.kept (t' := s4.toks) fun b ob q => Heap.get?_push_of_some _ q
  obtain ⟨l, rfl, hl⟩ := IsPart.raw pl
  obtain ⟨u, rfl, hu⟩ := IsPart.raw pu
  obtain ⟨st, rfl, hs⟩ := IsPart.raw ps
  cases l with
  | some l => cases hl
  | none =>
  cases u with
  | some u => cases hu
  | none =>
  cases st with
  | none => cases hs
  | some st =>
  obtain ⟨st, tk⟩ := st
  have hs : st = -1 := Option.some.inj hs
  subst hs
  refine tail_any (ops := [.str z t, .ref s4.heap.objs.size]) (typeIs_str _ _ _) F.slot_str_getitem.lookup ?_ (by with_unfolding_all rfl)
  refine wpAny_getItem_str_slice (l := none) (u := none) (st := some (-1, tk)) ⟨_, Heap.get?_push_size _ rfl, rfl, rfl⟩ rfl ?_
  refine post_val_or_str ⟨Nat.le_trans (Txt.sliceBy_le z none none (-1, tk) (show (-1 : Int) ≠ 0 by decide)) hz, fun t' c => ?_⟩
  exact ⟨.str (S z.cps.toList.reverse), H4, I5.tok _, ⟨t', by show Value.str (Txt.sliceBy z none none (-1, tk)) t' = _; rw [rev_eq]⟩, q⟩
end Tw

set_option maxHeartbeats 4000000
namespace Tw
open PySem PySem.Spec PyProof.Rows L2 LamX
/-! ### sorted(dict), keys hI, any number of them -/
def rSortD : List V → Hp → VK → Prop := fun args H Q => ∃ (d : Addr) (es : List (L2.Key × V)) (ns : List Int), args = [.ref d] ∧ Rd H d (.dK es) ∧ es.map Prod.fst = ns.map Sum.inl ∧ ns.length ≤ 100000 ∧
  ∀ (zs : List Int) (l : Addr), zs.Perm ns → zs.Pairwise (· ≤ ·) → H l = none → Q (.ref l) (upd H l (.lst (zs.map V.int)))
theorem key_int {n : Int} {u : Value} (h : keyIs (Sum.inl n) u = true) : ∃ t, u = .int n t := by
  rcases keyIs_shape h with ⟨m, t, e, r⟩ | ⟨_, _, e, _⟩
  · injection e with e
    exact ⟨t, by rw [r, e]⟩
  · exact nomatch e
theorem cr_sortedDict {X : Cx} (cm : X.calm = true) : CallR X (.builtin "sorted") rSortD := by
  intro pins st σ H args us Q I ra hyp
  obtain ⟨d, es, ns, rfl, hd, hk, hn, fin⟩ := hyp
  have eu : us = [.ref d] := by
    obtain ⟨u, rfl, ru⟩ := vals1 ra
    cases ru
    rfl
  subst eu
  obtain ⟨hz, hnm, fs, kv, dic⟩ := dk_rd I.hok hd
  obtain ⟨epoch, hda⟩ := dic.dictAt
  have hfst : fs.map Prod.fst = ns.map Sum.inl := by rw [← hk]; exact kv.keys.symm
  have hlen : fs.length = ns.length := by simpa using congrArg List.length hfst
  have big : ∀ k, k ≤ 100000 → k ≤ sizeLine := fun k h => Nat.le_trans h (by decide)
  refine Calls.call_function_entry PyProof.Rows.kind_sorted PyProof.Rows.plain_sorted PyProof.Rows.entry_sorted (PyProof.Rows.args_sorted1 _) ?_
  unfold Builtin.«sorted»
  refine wpAny_bind (m := checkCount "sorted" 1 1 _) (wpAny_pure (wpAny_bind (PySem.W.kdu_collect (A := X.A.in1) (PySem.W.kdl_dict (knd := mixKind X.prog X.w) (kvs := fs) (ep := epoch) hnm) (I.ok.hd cm) hda (big _ (hlen ▸ hn)) fun h1 tk got keep tells => ?_)))
  have glen : got.toList.length = ns.length := by simpa [hlen] using tells.1
  have hI : IntsAre got.toList ns := ints_each glen fun j v e => by
    obtain ⟨k, x, e1, e2⟩ := tells.2 j v (by simpa using e)
    have e3 : (ns.map Sum.inl)[j]? = some k := by rw [← hfst, List.getElem?_map, e1]; rfl
    rw [List.getElem?_map] at e3
    obtain ⟨n, e4, rfl⟩ := Option.map_eq_some_iff.mp e3
    obtain ⟨t, ev⟩ := key_int (n := n) e2
    exact ⟨n, t, e4, ev⟩
  have J : Inv X pins σ H { st with heap := h1, toks := tk } := I.kept keep
  refine wpAny_bind (wpAny_newList ?_ (big _ (glen ▸ hn)))
  have new : (h1.push (seqObj "list" got.toList.toArray 0)).get? h1.objs.size = some (seqObj "list" got.toList.toArray 0) := Heap.get?_push_size _ rfl
  show wpAny _ _ _ _ _ { st with heap := h1.push (seqObj "list" got.toList.toArray 0), toks := tk }
  refine wpAny_bind (wpAny_holding (wpAny_call_entry PyProof.Rows.slot_list_sort ⟨_, new, rfl⟩ PyProof.Rows.entry_list_sort (SrtO.list_sort_ord (s := { st with heap := h1.push (seqObj "list" got.toList.toArray 0), toks := tk }) SrtO.swo_int new
    (big _ (glen ▸ hn)) (fun two => SrtO.ints_sortable hI two) fun out s1 s2 => ⟨_, rfl, ?_⟩) (PyProof.Rows.args_list_sort _)))
  obtain ⟨o1, o2, o3⟩ := SrtO.ints_out hI s1 s2
  obtain ⟨e2, at2⟩ := PyProof.Rows.sortedHeap_at (vs := got.toList) (out := out.toArray) new
  have fits : ((out.map SrtO.iv).map V.int).length ≤ sizeLine := by
    rw [List.length_map, o2.length_eq]
    exact big _ hn
  refine wpAny_pure ⟨_, rfl, .ref h1.objs.size, _, J.laid (o := .lst ((out.map SrtO.iv).map V.int)) (t' := tk) (fun b u e => ?_) (Nat.le_refl _) ⟨fits, out, e2, vals_of_ints o1, at2⟩, rfl, fin _ _ o2 o3 (J.hok.fresh (Nat.le_refl _))⟩
  have hb := Heap.lt_size e
  rw [PyProof.Rows.sortedHeap_old (Nat.ne_of_lt hb) (by rw [size_push']; exact Nat.lt_succ_of_lt hb)]
  exact Heap.get?_push_of_some _ e
end Tw

set_option maxHeartbeats 4000000
namespace Tw
open PySem PySem.Spec PyProof.Rows L2 LamX
/-! ### a new heap by a name -/
section
variable {lo : Prop} {T : List (Addr × Str)} {K : PySem.W.Frag} {H H' : Hp} {p : Addr} {o : HO} {Q : VK}
theorem newE (h : upd H p o = H') (n : H p = none) : Xg lo T H H' := h ▸ .new n
theorem atE (h : upd H p o = H') : H' p = some o := h ▸ upd_same ..
theorem neS_same {z : Str} (hz : PyData.strOk z = true) (q : Q (.bl false) H) : rNeD K (.str z) (.str z) H Q := neD_same (.str _) (.str _) (sh_str hz) q
theorem neSC {σ : L2.St} {z : Str} (hz : PyData.strOk z = true) (q : Q (.bl false) H) : tC (.str z) σ H fun y H2 => rNeD K (.str z) y H2 Q := neS_same hz q
end
theorem len_app (a b : Str) : (a ++ b).length = a.length + b.length := by
  show (a.cps ++ b.cps).size = a.cps.size + b.cps.size
  exact Array.size_append
theorem lapp {a b : Str} {i j : Nat} (ha : a.length ≤ i) (hb : b.length ≤ j) : (a ++ b).length ≤ i + j := by
  rw [len_app]
  exact Nat.add_le_add ha hb
section
variable {X : Cx} {K : PySem.W.Frag}
theorem pe_revLK (eK : X.K = K) {e : Expr} {te : TE} {k : Nat} {p1 p2 p3 pos : Pos} (he : PE X e te) : PE X (.Subscript e (.Slice none none (some (.UnaryOp .USub (.Constant (.int 1) k p1) p2)) p3) pos) (tRevL K te) := by subst eK; exact pe_revL he
end
section
variable {X : Cx} {o i value : Expr} {pos pos' : Pos} {td ty tv : TE}
theorem pe_dgetU (hu : X.A.units + 64 < cLine) (ho : PE X o td) (hi : PE X i ty) (hs : NoSl i) : PE X (.Subscript o i pos) (tDGet td ty) := pe_dget (by omega) ho hi hs
theorem ps_dputU (hu : X.A.units + 64 < cLine) (ho : PE X o td) (hi : PE X i ty) (hv : PE X value tv) (hs : swapsWith value (some (.Subscript o i pos')) pos.line X.env = pure false) : PS X (.Assign [.Subscript o i pos'] value pos) (sDPut td ty tv) := ps_dput (by omega) ho hi hv hs
end
theorem mul_one (n : Nat) (h : 2 ≤ n) (b : Bool) : Txt.mul (sb [b]) (n : Int) = sb (List.replicate n b) := by
  rw [mul_sb [b] n h (by simp)]
  congr 1
  clear h
  induction n with
  | zero => rfl
  | succ n ih => rw [List.replicate_succ, List.flatten_cons, ih, List.replicate_succ]; rfl
end Tw

set_option maxHeartbeats 4000000
namespace Tw
open PySem PySem.Spec PyProof.Rows L2 LamX
section
variable {P : Program} {w : World} {K : PySem.W.Frag} {mg : Str → Option Value} {base : Heap}
def spNeeds (K : PySem.W.Frag) : Sp := fun vs H Q E => ∃ n : Int, vs = [.int n] ∧ (0 ≤ n → Q (.int (nd n.toNat)) H) ∧ (n < 0 → E (.ref (He.ga K "BadNumber")) none H)
theorem ok_needs (T : Tx K mg) : OkN P w K mg base ("needs", none) 1 ["number"] (spNeeds K) := by
  refine T.F_needs.ok sc_needs (fun vs H Q E h => ?_) (fun cdv A outer s H vs Q E hr h => ?_)
  · obtain ⟨n, rfl, _⟩ := h
    rfl
  · obtain ⟨n, rfl, q1, q2⟩ := h
    refine ⟨_, (pss_cons (ps_if (pt_cmpR op_lt (pv 0) pe_int (nomark _))
    (pss_one (ps_rz T.x_BadNumber rfl (by decide))) pss_nil)
    (pss_cons (ps_set (i := 1) sc_needs.nd rfl (.inl rfl) pe_int)
    (pss_cons (ps_while (passes_of rfl) (pt_cmpR op_gt (pv 0) pe_int (nomark _))
    (pss_cons (ps_set (i := 0) sc_needs.nd rfl (.inl rfl) (pe_op op_fdiv (pv 0) pe_int))
    (pss_one (ps_set (i := 1) sc_needs.nd rfl (.inl rfl) (pe_op op_add (pv 1) pe_int)))))
    (pss_one (ps_ret (pv 1)))))), ?_⟩
    refine ⟨_, rfl, _, _, rfl, rfl, _, rfl, ite2 (fun e => q2 (of_decide_eq_true e)) (fun e => ?_)⟩
    have h0 : 0 ≤ n := by simp only [decide_eq_true_eq] at e; omega
    refine ⟨fun m σ H' => ∃ c : Nat, σ = [some (.int m), some (.int c)] ∧ H' = H ∧ c + nd m = nd n.toNat, ⟨n.toNat, 0, by rw [Int.toNat_of_nonneg h0]; rfl, rfl, Nat.zero_add _⟩, fun m σ H' hW => ?_⟩
    obtain ⟨c, rfl, rfl, ec⟩ := hW
    refine ⟨_, rfl, _, _, rfl, rfl, _, rfl, ite2 (fun e => ?_) (fun e => ?_)⟩
    · have hm : 0 < m := by simp only [decide_eq_true_eq] at e; omega
      refine ⟨fun σ' H'' => ∃ m', m' < m ∧ ∃ c : Nat, σ' = [some (.int m'), some (.int c)] ∧ H'' = H' ∧ c + nd m' = nd n.toNat, fun _ _ h => h, ?_⟩
      refine ⟨_, rfl, _, _, rfl, rfl, ⟨by decide, by decide⟩, _, rfl, _, _, rfl, rfl, m / 2, by omega, c + 1, ?_, rfl, ?_⟩
      · exact rfl
      · rw [← ec, nd_pos hm]; omega
    · have hm : m = 0 := by simp only [decide_eq_true_eq] at e; omega
      subst hm
      refine ⟨_, rfl, ?_⟩
      have e0 : c = nd n.toNat := by rw [← ec, nd_zero]; rfl
      rw [e0]
      exact q1 h0
def spInBits : Sp := fun vs H Q _ => ∃ n w : Nat, vs = [.int n, .int w] ∧ w ≤ 100000 ∧ Q (.str (sb (bn n w))) H
theorem ok_in_bits (T : Tx K mg) : OkN P w K mg base ("in_bits", none) 1 ["number", "wide"] spInBits := by
  refine T.F_in_bits.ok sc_in_bits (fun vs H Q E h => ?_) (fun cdv A outer s H vs Q E hr h => ?_)
  · obtain ⟨n, wd, rfl, _⟩ := h
    rfl
  · obtain ⟨n, wd, rfl, hw, q⟩ := h
    refine ⟨_, (pss_cons (ps_set (i := 2) sc_in_bits.nd rfl (.inl rfl) pe_str)
    (pss_cons (ps_for (passes_of rfl) rfl (pi_range1 (by rfl) T.z_range (pa_cons (pv 1) pa_nil)) (pg_name (i := 3) sc_in_bits.nd rfl (.inl rfl))
    (pss_cons (ps_set (i := 2) sc_in_bits.nd rfl (.inl rfl) (pe_op op_add_str (pe_callTy call_str_int (by rfl) T.z_str b_str (pa_cons (pe_op op_mod (pv 0) pe_int) pa_nil)) (pv 2)))
    (pss_one (ps_set (i := 0) sc_in_bits.nd rfl (.inl rfl) (pe_op op_fdiv (pv 0) pe_int)))))
    (pss_one (ps_ret (pv 2))))), ?_⟩
    refine ⟨_, rfl, _, rfl, by omega, by omega, for_it w_range (fun i σ H' => H' = H ∧ ∃ t, σ = [some (.int ((n / 2 ^ i : Nat) : Int)), some (.int wd), some (.str (sb (bn n i))), t]) ⟨rfl, none, by rw [Nat.pow_zero, Nat.div_one, bn, ← sb_nil]; rfl⟩ (fun _ _ _ _ _ => trivial) ?_ ?_⟩
    · intro i x σ H1 H2 hi p hy
      obtain ⟨rfl, t, rfl⟩ := p
      obtain ⟨rfl, rfl⟩ := hy
      have h2 : (((n / 2 ^ i : Nat) : Int) % 2).natAbs.log2 < 1920 := by
        have : (((n / 2 ^ i : Nat) : Int) % 2).natAbs < 2 := by omega
        refine Nat.lt_of_le_of_lt (Nat.log2_le_self _) ?_
        omega
      have hi2 : i < wd := by omega
      refine ⟨_, rfl, _, _, rfl, rfl, (show (0 : Int) < 2 by decide), _, rfl, h2, _, rfl, _, _, rfl, rfl, ?_, ?_⟩
      · rw [str_bit, sb_len, sb_len, bn_len]
        exact Nat.le_trans (by show 1 + i ≤ 100001; omega) (by decide)
      · refine ⟨_, rfl, _, _, rfl, rfl, ⟨by decide, by decide⟩, rfl, some (.int (0 + i)), ?_⟩
        have e : (Str.ofString (toString (((n / 2 ^ i : Nat) : Int) % 2)) : Str) ++ sb (bn n i) = sb (bn n (i + 1)) := by
          rw [str_bit, sb_app, bn_front]
          rfl
        have e2 : (((n / 2 ^ i : Nat) : Int) / 2) = ((n / 2 ^ (i + 1) : Nat) : Int) := by
          rw [Nat.pow_succ, ← Nat.div_div_eq_div_mul]
          omega
        rw [e, ← e2]
        rfl
    · intro σ H1 p
      obtain ⟨rfl, t, rfl⟩ := p
      exact ⟨_, rfl, by rw [Int.toNat_natCast] at *; exact q⟩
def spOutOf : Sp := fun vs H Q _ => ∃ l : List Bool, vs = [.str (sb l)] ∧ l.length ≤ 100000 ∧ Q (.int (vb l)) H
theorem ok_out_of (T : Tx K mg) : OkN P w K mg base ("out_of", none) 1 ["bits"] spOutOf := by
  refine T.F_out_of.ok sc_out_of (fun vs H Q E h => ?_) (fun cdv A outer s H vs Q E hr h => ?_)
  · obtain ⟨l, rfl, _⟩ := h
    rfl
  · obtain ⟨l, rfl, hl, q⟩ := h
    refine ⟨_, (pss_cons (ps_set (i := 1) sc_out_of.nd rfl (.inl rfl) pe_int)
    (pss_cons (ps_for (passes_of rfl) rfl (pi_str (pv 0)) (pg_name (i := 2) sc_out_of.nd rfl (.inl rfl))
    (pss_one (ps_set (i := 1) sc_out_of.nd rfl (.inl rfl) (pe_op op_add (pe_op op_mul pe_int (pv 1)) (pe_callTy call_int_str (by rfl) T.z_int b_int (pa_cons (pv 2) pa_nil))))))
    (pss_one (ps_ret (pv 1))))), ?_⟩
    refine ⟨_, rfl, _, rfl, for_it w_str (fun i σ H' => H' = H ∧ ∃ t, σ = [some (.str (sb l)), some (.int (vb (l.take i))), t]) ⟨rfl, none, rfl⟩ (fun _ _ _ _ _ => trivial) ?_ ?_⟩
    · intro i x σ H1 H2 hi p hy
      obtain ⟨rfl, t, rfl⟩ := p
      obtain ⟨rfl, c, hc, rfl⟩ := hy
      rw [List.getElem?_map] at hc
      obtain ⟨b, hb, rfl⟩ := Option.map_eq_some_iff.mp hc
      refine ⟨_, rfl, _, _, rfl, rfl, .inl ⟨by decide, by decide⟩, _, rfl, _, _, rfl, int_bit b, by rw [S_len]; exact (by decide : 1 ≤ 640), _, _, rfl, rfl, rfl, some (.str (S [bc b])), ?_⟩
      have e : l.take (i + 1) = l.take i ++ [b] := by rw [List.take_add_one, hb]; rfl
      rw [e, vb_snoc]
      show [_, some (V.int (2 * (vb (l.take i) : Int) + (b.toNat : Int))), _] = [_, some (V.int ((2 * vb (l.take i) + b.toNat : Nat) : Int)), _]
      rw [Int.natCast_add, Int.natCast_mul]
      rfl
    · intro σ H1 p
      obtain ⟨rfl, t, rfl⟩ := p
      rw [List.length_map, List.take_length]
      exact ⟨_, rfl, q⟩
def spNeedBits (K : PySem.W.Frag) : Sp := fun vs H Q E => ∃ z : Str, vs = [.str z] ∧ z.length ≤ 100000 ∧ (IsB z → ∀ H', Xs (tK K) H H' → Q .non H') ∧ (¬ IsB z → ∀ H', Xs (tK K) H H' → E (.ref (He.ga K "BadBits")) none H')
theorem ok_need_bits (T : Tx K mg) : OkN P w K mg base ("need_bits", none) 1 ["bits"] (spNeedBits K) := by
  refine T.F_need_bits.ok sc_need_bits (fun vs H Q E h => ?_) (fun cdv A outer s H vs Q E hr h => ?_)
  · obtain ⟨z, rfl, _⟩ := h
    rfl
  · obtain ⟨z, rfl, hl, q1, q2⟩ := h
    obtain ⟨l, rfl⟩ : ∃ l, z = S l := ⟨_, S_of z⟩
    rw [S_len] at hl
    refine ⟨_, (pss_one (ps_if (pt_not (pt_val (pe_callB (cr_allK (K := K) rfl rfl) (by rfl) T.z_all b_all (pa_cons (pe_lc (own := [("sign", 1)]) rfl sc_need_bits.nd (pi_str (pv 0)) (blkOk_by (N := N_need_bits) (sc := defScope s_need_bits) (by decide +kernel)) (fun _ _ _ _ _ => (pg_name (i := 1) sc_need_bits.nd rfl (.inl rfl))) (fun _ _ _ _ _ => pts_nil) (fun _ _ _ _ _ => (pe_cmpR op_in_sign (pv 1) pe_str (by rfl)))) pa_nil))))
    (pss_one (ps_rz T.x_BadBits rfl (by decide))) pss_nil)), ?_⟩
    refine ⟨_, rfl, _, rfl, fun D hD => lcPs (T := tK K) w_str hD (by omega) (fun _ _ => trivial) (fun i => .bl (decide (l.getD i 0 ∈ [48, 49]))) ?_ fun H1 x1 e1 => ?_⟩
    · intro i x H1 hi hy x1 Q q
      obtain ⟨c, hc, rfl⟩ := hy
      refine ⟨_, rfl, _, _, rfl, rfl, ?_⟩
      rw [signs01]
      have e : l.getD i 0 = c := by rw [List.getD_eq_getElem?_getD, hc]; rfl
      rw [e] at q
      exact q H1 Xs.refl
    · refine ⟨D, (List.range l.length).map fun i => decide (l.getD i 0 ∈ [48, 49]), rfl, SqL.of (by rw [e1, List.map_map]; rfl), _, rfl, ?_⟩
      rw [all_bits]
      refine ite2 (fun e => ?_) (fun e => ?_)
      · exact q2 (fun hb => by rw [isB_iff] at hb; rw [decide_eq_true hb] at e; cases e) H1 x1
      · refine q1 ((isB_iff l).mpr (by by_cases h : ∀ c ∈ l, c = 48 ∨ c = 49; exact h; rw [decide_eq_false h] at e; exact absurd rfl e)) H1 x1
def spPack (K : PySem.W.Frag) : Sp := fun vs H Q E => ∃ (a : Addr) (ns : List Int) (wd : Nat), vs = [.ref a, .int wd] ∧ SqL K H a (ns.map .int) ∧ ns.length ≤ 1000 ∧ wd ≤ 1000 ∧
  ((∀ n ∈ ns, 0 ≤ n ∧ nd n.toNat ≤ wd) → ∀ H', Xs (tK K) H H' → Q (.str (sb (pk (ns.map Int.toNat) wd))) H') ∧ ((∃ n ∈ ns, n < 0 ∨ wd < nd n.toNat) → ∀ H', Xs (tK K) H H' → E (.ref (He.ga K "BadNumber")) none H')
theorem ok_pack (T : Tx K mg) : OkN P w K mg base ("pack", none) 2 ["numbers", "wide"] (spPack K) := by
  refine T.F_pack.ok sc_pack (fun vs H Q E h => ?_) (fun cdv A outer s H vs Q E hr h => ?_)
  · obtain ⟨a, ns, wd, rfl, _⟩ := h
    rfl
  · obtain ⟨a, ns, wd, rfl, ha, hl, hw, q1, q2⟩ := h
    refine ⟨_, (pss_cons (ps_for (passes_of rfl) rfl (pi_listK (K := K) rfl (pv 0)) (pg_name (i := 2) sc_pack.nd rfl (.inl rfl))
    (pss_one (ps_if (pt_cmpR op_gt (pe_callS (ok_needs T) (hr.mono (by decide)) (by rfl) T.g_needs T.F_needs.kp T.B_needs psE (pa_cons (pv 2) pa_nil)) (pv 1) (nomark _))
    (pss_one (ps_rz T.x_BadNumber rfl (by decide))) pss_nil)))
    (pss_one (ps_ret (pe_joinK (K := K) rfl pe_str (pe_lc (own := [("number", 2)]) rfl sc_pack.nd (pi_listK (K := K) rfl (pv 0)) (blkOk_by (N := N_pack) (sc := defScope s_pack) (by decide +kernel)) (fun _ _ _ _ _ => (pg_name (i := 2) sc_pack.nd rfl (.inl rfl))) (fun _ _ _ _ _ => pts_nil) (fun _ _ _ _ _ => (pe_callS (ok_in_bits T) (hr.mono (by decide)) (by rfl) T.g_in_bits T.F_in_bits.kp T.B_in_bits ps0 (pa_cons (pv 2) (pa_cons (pv 1) pa_nil))))) (by rfl) (by rfl) (by rfl))))), ?_⟩
    refine ⟨_, rfl, a, rfl, ⟨_, ha⟩, for_it w_list (fun i σ H' => H' = H ∧ (∀ n ∈ ns.take i, 0 ≤ n ∧ nd n.toNat ≤ wd) ∧ ∃ t, σ = [some (.ref a), some (.int wd), t]) ⟨rfl, fun n hn => by simp at hn, none, rfl⟩ (fun i σ H' _ p => p.1 ▸ ha) ?_ ?_⟩
    · intro i x σ H1 H2 hi p hy
      obtain ⟨rfl, hp, t, rfl⟩ := p
      obtain ⟨rfl, hx⟩ := hy
      rw [List.getElem?_map] at hx
      obtain ⟨n, hn, rfl⟩ := Option.map_eq_some_iff.mp hx
      have mem : n ∈ ns := List.mem_of_getElem? hn
      refine ⟨_, rfl, n, rfl, fun h0 => ?_, fun h0 => q2 ⟨n, mem, .inl h0⟩ _ Xs.refl⟩
      refine ⟨_, rfl, _, _, rfl, rfl, _, rfl, ite2 (fun e => ?_) (fun e => ?_)⟩
      · exact q2 ⟨n, mem, .inr (by simp only [decide_eq_true_eq] at e; omega)⟩ _ Xs.refl
      · refine ⟨rfl, fun m hm => ?_, _, rfl⟩
        rw [List.take_add_one, hn, List.mem_append] at hm
        rcases hm with hm | hm
        · exact hp m hm
        · have em : m = n := by simpa using hm
          subst em
          exact ⟨h0, by simp only [decide_eq_true_eq] at e; omega⟩
    · intro σ H1 p
      obtain ⟨rfl, hp, t, rfl⟩ := p
      rw [List.length_map, List.take_length] at hp
      refine ⟨⟨_, rfl⟩, _, rfl, a, rfl, ⟨_, ha⟩, fun D hD => lcPs (T := tK K) w_list hD (by rw [List.length_map]; omega) (fun H' x => x.seq ha) (fun i => .str (sb (bn (ns.getD i 0).toNat wd))) ?_ fun H2 x2 e2 => ?_⟩
      · intro i x H2 hi hy x2 Q q
        rw [List.getElem?_map] at hy
        obtain ⟨n, hn, rfl⟩ := Option.map_eq_some_iff.mp hy
        have e : ns.getD i 0 = n := by rw [List.getD_eq_getElem?_getD, hn]; rfl
        rw [e] at q
        refine ⟨_, rfl, _, rfl, n.toNat, wd, ?_, by omega, q _ Xs.refl⟩
        rw [Int.toNat_of_nonneg (hp n (List.mem_of_getElem? hn)).1]
      · have e3 : ((List.range (ns.map V.int).length).map fun i => V.str (sb (bn (ns.getD i 0).toNat wd))) = (((ns.map Int.toNat).map fun n => bn n wd).map sb).map V.str := by
          rw [List.length_map, List.map_map, List.map_map, List.map_map]
          refine List.ext_getElem (by simp) fun i h1 h2 => ?_
          simp at h1 h2
          simp [List.getD_eq_getElem?_getD, List.getElem?_eq_getElem h1]
        refine ⟨S [], D, ((ns.map Int.toNat).map fun n => bn n wd).map sb, rfl, rfl, .inl (SqL.of (by rw [e2, e3])), ?_, ?_⟩
        · rw [sum_len, S_len]
          have e4 : (((ns.map Int.toNat).map fun n => bn n wd).map List.length).sum = ns.length * wd := by
            rw [← List.length_flatten, show ((ns.map Int.toNat).map fun n => bn n wd).flatten = pk (ns.map Int.toNat) wd from rfl, pk_len, List.length_map]
          rw [e4]
          have := Nat.mul_le_mul hl hw
          simp
          omega
        · rw [show S [] = sb [] from rfl, join_sb]
          exact q1 hp H2 x2
def Good (z : Str) (wd : Nat) : Prop := IsB z ∧ (z.length = 0 ∨ (wd ≠ 0 ∧ z.length % wd = 0))
theorem good_pk (ns : List Nat) (wd : Nat) : Good (sb (pk ns wd)) wd := by
  refine ⟨⟨_, rfl⟩, ?_⟩
  rw [sb_len, pk_len]
  rcases Nat.eq_zero_or_pos wd with h | h
  · exact .inl (by rw [h]; rfl)
  · exact .inr ⟨by omega, Nat.mul_mod_left _ _⟩
theorem unpk (ns : List Nat) (wd : Nat) (h : ∀ n ∈ ns, nd n ≤ wd) : ((List.range ((pk ns wd).length / wd)).map fun i => V.int (vb (part (pk ns wd) wd i))) = ((ns.take (ns.length * min 1 wd)).map Int.ofNat).map .int := by
  rw [pk_len]
  rcases Nat.eq_zero_or_pos wd with h0 | h0
  · subst h0
    simp
  · rw [Nat.mul_div_cancel _ h0, show min 1 wd = 1 by omega, Nat.mul_one, List.take_length, List.map_map]
    refine List.ext_getElem (by simp) fun i h1 h2 => ?_
    simp only [List.getElem_map, List.getElem_range]
    have h3 : i < ns.length := by simpa using h1
    rw [part_pk ns wd i _ (List.getElem?_eq_getElem h3), bn_vb_lt ((nd_le _ _).mp (h _ (List.getElem_mem h3)))]
    rfl
def spNeedPacked (K : PySem.W.Frag) : Sp := fun vs H Q E => ∃ (z : Str) (wd : Nat), vs = [.str z, .int wd] ∧ z.length ≤ 100000 ∧ (Good z wd → ∀ H', Xs (tK K) H H' → Q .non H') ∧ (¬ Good z wd → ∀ H', Xs (tK K) H H' → E (.ref (He.ga K "BadBits")) none H')
theorem ok_need_packed (T : Tx K mg) : OkN P w K mg base ("need_packed", none) 2 ["bits", "wide"] (spNeedPacked K) := by
  refine T.F_need_packed.ok sc_need_packed (fun vs H Q E h => ?_) (fun cdv A outer s H vs Q E hr h => ?_)
  · obtain ⟨z, wd, rfl, _⟩ := h
    rfl
  · obtain ⟨z, wd, rfl, hl, q1, q2⟩ := h
    refine ⟨_, (pss_cons (ps_expr (pe_callS (ok_need_bits T) (hr.mono (by decide)) (by rfl) T.g_need_bits T.F_need_bits.kp T.B_need_bits psE (pa_cons (pv 0) pa_nil)))
    (pss_one (ps_if (PW.pt (pw_and (pt_cmpR op_gt (pe_callB call_len_str (by rfl) T.z_len b_len (pa_cons (pv 0) pa_nil)) pe_int (nomark _)) (pw_and1 (PW.pt (pw_or (pt_cmpR op_eq (pv 1) pe_int (nomark _)) (pw_or1 (pt_cmpR op_gt (pe_op op_mod (pe_callB call_len_str (by rfl) T.z_len b_len (pa_cons (pv 0) pa_nil)) (pv 1)) pe_int (nomark _))))))))
    (pss_one (ps_rz T.x_BadBits rfl (by decide))) pss_nil))), ?_⟩
    have hz : z.length ≤ sizeLine := Nat.le_trans hl (by decide)
    refine ⟨_, rfl, z, rfl, hl, fun hb H1 x1 => ?_, fun hb H1 x1 => q2 (fun g => hb g.1) H1 x1⟩
    refine ⟨_, rfl, _, rfl, hz, _, _, rfl, rfl, _, rfl, ite2 (fun e => ?_) (fun e => ?_)⟩
    · simp only [decide_eq_true_eq] at e
      refine ⟨_, rfl, rfl, _, rfl, ite2 (fun e2 => ?_) (fun e2 => ?_)⟩
      · refine iteT (q2 (fun g => ?_) H1 x1)
        have e3 : (wd : Int) = 0 := V.int.inj (of_decide_eq_true e2)
        rcases g.2 with h | h <;> omega
      · have e3 : ¬ (wd : Int) = 0 := fun h => e2 (decide_eq_true (congrArg V.int h))
        refine ⟨_, rfl, _, rfl, hz, _, rfl, _, _, rfl, rfl, (show (0 : Int) < wd by omega), _, _, rfl, rfl, _, rfl, ite2 (fun e4 => ?_) (fun e4 => ?_)⟩
        · refine q2 (fun g => ?_) H1 x1
          simp only [decide_eq_true_eq] at e4
          rcases g.2 with h | h <;> omega
        · refine q1 ⟨hb, .inr ⟨by omega, ?_⟩⟩ H1 x1
          simp only [decide_eq_true_eq] at e4
          omega
    · simp only [decide_eq_true_eq] at e
      exact iteF (q1 ⟨hb, .inl (by omega)⟩ H1 x1)
def spNumberAt (K : PySem.W.Frag) : Sp := fun vs H Q E => ∃ (z : Str) (wd : Nat) (i : Int), vs = [.str z, .int wd, .int i] ∧ z.length ≤ 100000 ∧ wd ≤ 1000 ∧
  (∀ l (j : Nat), z = sb l → Good z wd → i = j → (j + 1) * wd ≤ l.length → l ≠ [] → ∀ H', Xs (tK K) H H' → Q (.int (vb (part l wd j))) H') ∧ (¬ Good z wd → ∀ H', Xs (tK K) H H' → E (.ref (He.ga K "BadBits")) none H') ∧
  (Good z wd → (i < 0 ∨ (z.length : Int) < (i + 1) * wd ∨ z.length = 0) → ∀ H', Xs (tK K) H H' → E (.ref (He.ga K "BadPlace")) none H')
theorem ok_number_at (T : Tx K mg) : OkN P w K mg base ("number_at", none) 3 ["bits", "wide", "place"] (spNumberAt K) := by
  refine T.F_number_at.ok sc_number_at (fun vs H Q E h => ?_) (fun cdv A outer s H vs Q E hr h => ?_)
  · obtain ⟨z, wd, i, rfl, _⟩ := h
    rfl
  · obtain ⟨z, wd, i, rfl, hl, hw, q1, q2, q3⟩ := h
    refine ⟨_, (pss_cons (ps_expr (pe_callS (ok_need_packed T) (hr.mono (by decide)) (by rfl) T.g_need_packed T.F_need_packed.kp T.B_need_packed psE (pa_cons (pv 0) (pa_cons (pv 1) pa_nil))))
    (pss_cons (ps_if (PW.pt (pw_or (pt_not (pt_cmpR op_le pe_int (pv 2) (nomark _))) (pw_or (pt_cmpR op_gt (pe_op op_mul (pe_op op_add (pv 2) pe_int) (pv 1)) (pe_callB call_len_str (by rfl) T.z_len b_len (pa_cons (pv 0) pa_nil)) (nomark _)) (pw_or1 (pt_cmpR op_eq (pv 0) pe_str (nomark _))))))
    (pss_one (ps_rz T.x_BadPlace rfl (by decide))) pss_nil)
    (pss_one (ps_ret (pe_callS (ok_out_of T) (hr.mono (by decide)) (by rfl) T.g_out_of T.F_out_of.kp T.B_out_of psE (pa_cons (pe_slice sl_str (pv 0) (po_some (pe_op op_mul (pv 2) (pv 1))) (po_some (pe_op op_add (pe_op op_mul (pv 2) (pv 1)) (pv 1)))) pa_nil)))))), ?_⟩
    refine ⟨_, rfl, _, rfl, z, wd, rfl, hl, fun g H1 x1 => ?_, fun g H1 x1 => q2 g H1 x1⟩
    obtain ⟨l, rfl⟩ := g.1
    have hz : (sb l).length ≤ sizeLine := Nat.le_trans hl (by decide)
    have bad : (i < 0 ∨ ((sb l).length : Int) < (i + 1) * wd ∨ (sb l).length = 0) → E (.ref (He.ga K "BadPlace")) none H1 := fun h => q3 g h H1 x1
    refine ⟨_, rfl, _, _, rfl, rfl, _, rfl, ite2 (fun e => ?_) (fun e => ?_)⟩
    · simp only [Bool.not_eq_true', decide_eq_false_iff_not] at e
      exact iteT (bad (.inl (by omega)))
    · simp only [Bool.not_eq_true', decide_eq_false_iff_not] at e
      refine ⟨_, rfl, _, _, rfl, rfl, _, rfl, _, _, rfl, rfl, .inr ⟨by omega, by omega⟩, _, rfl, _, rfl, hz, _, _, rfl, rfl, _, rfl, ite2 (fun e2 => ?_) (fun e2 => ?_)⟩
      · simp only [decide_eq_true_eq] at e2
        exact iteT (bad (.inr (.inl e2)))
      · simp only [decide_eq_true_eq] at e2
        refine ⟨_, rfl, rfl, _, rfl, ite2 (fun e3 => ?_) (fun e3 => ?_)⟩
        · refine bad (.inr (.inr ?_))
          have e4 := V.str.inj (of_decide_eq_true e3)
          rw [e4]
          decide +kernel
        · obtain ⟨j, rfl⟩ : ∃ j : Nat, i = j := ⟨i.toNat, by omega⟩
          have hne : l ≠ [] := fun h => e3 (by rw [h, sb_nil]; exact decide_eq_true rfl)
          have hle : (j + 1) * wd ≤ l.length := by
            rw [sb_len] at e2
            have : (((j + 1) * wd : Nat) : Int) ≤ (l.length : Int) := by rw [Int.natCast_mul, Int.natCast_add]; exact Int.not_lt.mp e2
            omega
          refine ⟨_, rfl, ⟨_, rfl, _, rfl, _, _, rfl, rfl, .inr ⟨by omega, by omega⟩, _, rfl, ⟨_, rfl, _, rfl, _, _, rfl, rfl, .inr ⟨by omega, by omega⟩, _, rfl, _, _, rfl, rfl, _, rfl, sb l, rfl, hz, part l wd j, ?_, ?_, q1 l j rfl g rfl hle hne H1 x1⟩⟩⟩
          · show [V.str (cutS (sb l) (some ((j : Int) * (wd : Int))) (some ((j : Int) * (wd : Int) + (wd : Int))))] = _
            rw [← Int.natCast_mul, ← Int.natCast_add, cut_sb]
            rfl
          · unfold part
            rw [List.length_drop, List.length_take]
            rw [sb_len] at hl
            omega
end
end Tw

set_option maxHeartbeats 4000000
namespace Tw
open PySem PySem.Spec PyProof.Rows L2 LamX
def spDrawn : Sp := fun vs H Q _ => ∃ c k : Int, vs = [.int c, .int k] ∧ 0 ≤ k ∧ k ≤ 1000000 ∧ Q (.int (dr c k)) H
section
variable {P : Program} {w : World} {K : PySem.W.Frag} {mg : Str → Option Value} {base : Heap}
theorem ok__law_drawn (T : Tx K mg) : OkN P w K mg base ("_law_drawn", none) 1 ["_law_cell_here", "_law_k"] spDrawn := by
  refine T.F__law_drawn.ok sc__law_drawn (fun vs H Q E h => ?_) (fun cdv A outer s H vs Q E hr h => ?_)
  · obtain ⟨c, k, rfl, _⟩ := h
    rfl
  · obtain ⟨c, k, rfl, h0, hk, q⟩ := h
    refine ⟨_, (pss_cons (ps_set (i := 2) sc__law_drawn.nd rfl (.inl rfl) (pe_op op_mod (pe_op op_add (pe_op op_mul (pv 0) pe_int) (pe_op op_mul (pe_op op_add (pv 1) pe_int) pe_int)) pe_int))
    (pss_cons (ps_set (i := 2) sc__law_drawn.nd rfl (.inl rfl) (pe_op op_mod (pe_op op_mulW (pv 2) (pv 2)) pe_int))
    (pss_cons (ps_set (i := 2) sc__law_drawn.nd rfl (.inl rfl) (pe_op op_mulW (pe_op op_mulW (pe_op op_add (pe_op op_mod (pv 2) pe_int) pe_int) (pe_op op_add (pe_op op_fdivW (pv 2) pe_int) pe_int)) (pv 2)))
    (pss_one (ps_ret (pe_op op_mod (pv 2) pe_int)))))), ?_⟩
    refine ⟨_, rfl, _, _, rfl, rfl, .inr ⟨by decide, by decide⟩, _, rfl, _, _, rfl, rfl, _, _, rfl, rfl, .inr ⟨by decide, by decide⟩, _, _, rfl, rfl, _, _, rfl, rfl, (show (0 : Int) < pA by decide), ?_⟩
    refine ⟨_, rfl, _, rfl, _, _, rfl, rfl, wide_mul (a := 129) (b := 129) (dr1_abs c k) (dr1_abs c k) (by decide) (by decide) (by decide), _, _, rfl, rfl, (show (0 : Int) < pB by decide), ?_⟩
    refine ⟨_, rfl, _, _, rfl, rfl, (show (0 : Int) < pC by decide), _, _, rfl, rfl, _, rfl, _, _, rfl, rfl, (wide_div (b := 64) (by decide) (by decide) (by decide) (by decide)), _, _, rfl, rfl, _, _, rfl, rfl, ?_, _, rfl, _, _, rfl, rfl, ?_, ?_⟩
    · exact wide_mul (a := 65) (b := 129) (dr2_a c k) (dr2_b c k) (by decide) (by decide) (by decide)
    · exact wide_mul (a := 194) (b := 129) (wide_lt (a := 65) (b := 129) (dr2_a c k) (dr2_b c k)) (dr2_abs c k) (by decide) (by decide) (by decide)
    exact ⟨_, rfl, _, _, rfl, rfl, (show (0 : Int) < pA by decide), q⟩
def spCell (K : PySem.W.Frag) : Sp := fun vs H Q _ => ∃ (a : Addr) (ns : List Int) (k : Nat), vs = [.ref a, .int k] ∧ SqL K H a (ns.map .int) ∧ k ≤ 1000000 ∧ ns.length ≤ 1000000 ∧ ∀ H', Xt (tK K) H H' → Q (.int (cellV ns k)) H'
theorem ok__law_cell (T : Tx K mg) : OkN P w K mg base ("_law_cell", none) 1 ["_law_script", "_law_k"] (spCell K) := by
  refine T.F__law_cell.ok sc__law_cell (fun vs H Q E h => ?_) (fun cdv A outer s H vs Q E hr h => ?_)
  · obtain ⟨a, ns, k, rfl, _⟩ := h
    rfl
  · obtain ⟨a, ns, k, rfl, ha, hk, hl, q⟩ := h
    refine ⟨_, (pss_cons (ps_if (pt_cmpR (op_eqDK (K := K) rfl hr.units) (pv 0) (pe_lst pa_nil) (nomark _))
    (pss_one (ps_ret (pe_op op_mul (pv 1) pe_int))) pss_nil)
    (pss_one (ps_ret (pe_op op_add (pe_ix (ix_listK (K := K) rfl) (pv 0) (pe_op op_mod (pv 1) (pe_callB (call_len_seqK (K := K) rfl) (by rfl) T.z_len b_len (pa_cons (pv 0) pa_nil))) (fun _ _ => rfl)) (pe_op op_mul (pe_op op_fdivW (pv 1) (pe_callB (call_len_seqK (K := K) rfl) (by rfl) T.z_len b_len (pa_cons (pv 0) pa_nil))) pe_int))))), ?_⟩
    refine ⟨_, rfl, by decide, fun p hp => ?_⟩
    have x : Xt (tK K) H (upd H p (.lst [])) := Xt.new hp
    refine eqD_of (d := .list (ns.map .int)) (e := .list (([] : List Int).map .int)) (dp_ints (x.seq ha)) (dp_ints (SqL.of (by rw [upd_same]; rfl))) sh_ints sh_ints ?_
    rw [eqv_ints]
    unfold cellV at q
    by_cases h0 : ns = []
    · rw [if_pos h0] at q
      rw [decide_eq_true h0]
      exact ⟨_, rfl, iteT ⟨_, rfl, _, _, rfl, rfl, .inr ⟨by decide, by decide⟩, q _ x⟩⟩
    · rw [if_neg h0] at q
      rw [decide_eq_false h0]
      have hn : 0 < ns.length := List.length_pos_iff.mpr h0
      have em : (k : Int) % ((ns.map V.int).length : Int) = ((k % ns.length : Nat) : Int) := by rw [List.length_map]; exact (Int.natCast_emod _ _).symm
      have ed : (k : Int) / ((ns.map V.int).length : Int) = ((k / ns.length : Nat) : Int) := by rw [List.length_map]; exact (Int.natCast_ediv _ _).symm
      have hm : k % ns.length < ns.length := Nat.mod_lt _ hn
      refine ⟨_, rfl, iteF ⟨_, rfl, _, rfl, _, rfl, _, _, rfl, .inl (x.seq ha), _, _, rfl, rfl, ?_, _, _, _, .int (ns.getD (k % ns.length) 0), rfl, rfl, x.seq ha, ?_, _, rfl, _, rfl, _, _, rfl, .inl (x.seq ha), _, _, rfl, rfl, ?_, _, _, rfl, rfl, .inr ⟨by decide, by decide⟩, _, _, rfl, rfl, ?_⟩⟩
      · show (0 : Int) < ((ns.map V.int).length : Int)
        rw [List.length_map]
        omega
      · rw [em]
        refine atI_nat ?_
        rw [List.getElem?_map, List.getD_eq_getElem?_getD, List.getElem?_eq_getElem hm]
        rfl
      · refine wide_div (b := 20) ?_ ?_ (by decide) (by decide)
        · rw [List.length_map]
          omega
        · rw [List.length_map]
          omega
      · rw [ed]
        exact q _ x
end
end Tw

set_option maxHeartbeats 4000000
namespace Tw
open PySem PySem.Spec PyProof.Rows L2 LamX
section
variable {P : Program} {w : World} {K : PySem.W.Frag} {mg : Str → Option Value} {base : Heap}
theorem isi_list {H : Hp} {v : V} {o : Ob} {Q : VK} {σ : L2.St} (h : ObAt K H v o) (q1 : ∀ cs, o = .li cs → Q (.bl true) H) (q2 : o = .no → Q (.bl false) H) : tCons (tC (.ty "list")) tNil σ H fun xs H2 => rIsi K (v :: xs) H2 Q := by
  show rIsi K [v, .ty "list"] H Q
  cases h with
  | li e hs => exact ⟨_, _, _, _, true, rfl, .ty "list", .base (.lst e), by rfl, q1 _ rfl⟩
  | no h =>
    have q2 := q2 rfl
    cases h with
    | non => exact ⟨_, _, _, _, false, rfl, .ty "list", .base .non, by rfl, q2⟩
    | int i => exact ⟨_, _, _, _, false, rfl, .ty "list", .base (.int i), by rfl, q2⟩
    | str z => exact ⟨_, _, _, _, false, rfl, .ty "list", .base (.str z), by rfl, q2⟩
    | tup e => exact ⟨_, _, _, _, false, rfl, .ty "list", .base (.tup e), by rfl, q2⟩
    | dK e => exact ⟨_, _, _, _, false, rfl, .ty "list", .base (.dK e), by rfl, q2⟩
def sgV (s : List Bool) : List V := s.map fun b => .str (sb [b])
def spLBits (K : PySem.W.Frag) (n : Nat) : Sp := fun vs H Q E => ∃ (v : V) (o : Ob), vs = [v] ∧ ObAt K H v o ∧ isT o = true ∧ ht o < n ∧ (btT o).length ≤ 10000 ∧ ∀ H', Xs (tK K) H H' → Q (.str (sb (btT o))) H'
theorem ok__law_bits_of (T : Tx K mg) : ∀ n, OkN P w K mg base ("_law_bits_of", none) n ["_law_tree_here"] (spLBits K n)
  | 0 => ⟨fun vs H Q E h => by obtain ⟨v, o, rfl, _⟩ := h; rfl, fun A outer s H args us vs Q E _ _ _ _ h => by obtain ⟨v, o, _, _, _, h, _⟩ := h; omega⟩
  | n + 1 => by
    have ih := ok__law_bits_of T n
    refine T.F__law_bits_of.ok sc__law_bits_of (fun vs H Q E h => ?_) (fun cdv A outer s H vs Q E hr h => ?_)
    · obtain ⟨v, o, rfl, _⟩ := h
      rfl
    · obtain ⟨v, o, rfl, ho, hT, hn, hl, q⟩ := h
      refine ⟨_, (pss_cons (ps_set (i := 1) sc__law_bits_of.nd rfl (.inl rfl) (pe_lst (pa_cons pe_str pa_nil)))
    (pss_cons (ps_for (passes_of rfl) rfl (pi_listK (K := K) rfl (pv 0)) (pg_name (i := 2) sc__law_bits_of.nd rfl (.inl rfl))
    (pss_one (ps_expr (pe_bmK (K := K) rfl F.plainAttrs_list F.slot_list_append F.type_list_append mt_append (pv 1) (pa_cons (pe_callS ih (hr.mono (Nat.le_refl _)) (by rfl) T.g__law_bits_of T.F__law_bits_of.kp T.B__law_bits_of psE (pa_cons (pv 2) pa_nil)) pa_nil) (by rfl) (by rfl) (by rfl) (by rfl) (by rfl)))))
    (pss_one (ps_ret (pe_op op_add_str (pe_joinK (K := K) rfl pe_str (pv 1) (by rfl) (by rfl) (by rfl)) pe_str))))), ?_⟩
      cases ho with
      | no h => cases hT
      | li e hs =>
      rename_i a xs cs
      have hn : htL cs + 1 < n + 1 := hn
      have hT : isTL cs = true := hT
      have hl : (true :: (btL cs ++ [false])).length ≤ 10000 := hl
      rw [List.length_cons, List.length_append] at hl
      have hl : (btL cs).length + 2 ≤ 10000 := hl
      have hcnt := btL_count cs hT
      refine ⟨by exact (by decide : 1 ≤ sizeLine), fun p np => ?_⟩
      have np0 : Nw H p := .of np
      have x1 : Xs (tK K) H (upd H p (.lst [.str "1"])) := .new np
      have e1 : (upd H p (.lst [.str "1"])) p = some (.lst (([true] :: (cs.take 0).map btT).map fun l => .str (sb l))) := by
        rw [upd_same]
        exact congrArg (fun z => some (HO.lst [V.str z])) sb_1
      show tSeq _ _ _ _ (upd H p (.lst [.str "1"]))
      generalize upd H p (.lst [.str "1"]) = H1 at x1 e1 ⊢
      refine ⟨_, rfl, a, rfl, ⟨_, SqL.of (x1.lst e)⟩, for_it w_list (fun i σ H' => Xs (tK K) H H' ∧ H' p = some (.lst (([true] :: (cs.take i).map btT).map fun l => .str (sb l))) ∧ ∃ t, σ = [some (.ref a), some (.ref p), t]) ⟨x1, e1, none, rfl⟩ (fun _ _ _ _ p => SqL.of (p.1.lst e)) ?_ ?_⟩
      · intro i x σ Ha Hb hi hp hy
        obtain ⟨xa, ea, t, rfl⟩ := hp
        obtain ⟨rfl, hx⟩ := hy
        obtain ⟨c, hc, oc⟩ := hs.get hx
        have oc := xa.ob c _ oc
        have hcm := List.mem_of_getElem? hc
        have hh := ht_mem hcm
        have hb := btL_mem hcm
        have hlt := (List.getElem?_eq_some_iff.mp hc).1
        refine ⟨_, rfl, .inl ⟨rfl, _, SqL.of ea⟩, _, rfl, x, c, rfl, oc, isTL_mem hT hcm, by omega, by omega, fun H2 x2 => ?_⟩
        have ea := x2.lst ea
        refine ⟨p, _, _, rfl, rfl, ea, ?_, (xa.trans x2).mut np0 ea, ?_, some x, rfl⟩
        · rw [List.length_map, List.length_cons, List.length_map, List.length_take]
          exact Nat.lt_of_lt_of_le (show _ < 10001 by omega) (by decide)
        · rw [upd_same, List.take_add_one, hc]
          show some (HO.lst _) = some (HO.lst _)
          rw [List.map_append, List.map_cons, List.map_cons, List.map_append]
          rfl
      · intro σ Ha hp
        obtain ⟨xa, ea, t, rfl⟩ := hp
        rw [hs.len, List.take_length] at ea
        have efl : ([true] :: cs.map btT).flatten = true :: btL cs := by
          rw [List.flatten_cons, ← btL_eq]
          rfl
        refine ⟨⟨_, rfl⟩, _, rfl, S [], p, ([true] :: cs.map btT).map sb, rfl, rfl, .inl (SqL.of (by rw [ea, List.map_map]; rfl)), ?_, ?_⟩
        · rw [sum_len, S_len, ← List.length_flatten, efl, List.length_cons]
          simp only [List.length_nil, Nat.mul_zero, Nat.add_zero]
          omega
        · rw [show S [] = sb [] from rfl, join_sb, efl]
          refine ⟨_, _, rfl, rfl, ?_, ?_⟩
          · rw [sb_0, sb_len, sb_len, List.length_cons]
            exact Nat.le_trans (show (btL cs).length + 1 + 1 ≤ 10000 by omega) (by decide)
          · rw [sb_0, sb_app]
            exact q Ha xa
def spNeedTree (K : PySem.W.Frag) : Sp := fun vs H Q E => ∃ (z : Str), vs = [.str z] ∧ z.length ≤ 100000 ∧ (∀ l, z = sb l → okT l → l.length ≤ 2000 → ∀ H', Xs (tK K) H H' → Q .non H') ∧ ((∀ l, z = sb l → okT l → 2000 < l.length) → ∀ H', Xs (tK K) H H' → E (.ref (He.ga K "BadBits")) none H')
theorem ok_need_tree (T : Tx K mg) : OkN P w K mg base ("need_tree", none) 2 ["bits"] (spNeedTree K) := by
  refine T.F_need_tree.ok sc_need_tree (fun vs H Q E h => ?_) (fun cdv A outer s H vs Q E hr h => ?_)
  · obtain ⟨z, rfl, _⟩ := h
    rfl
  · obtain ⟨z, rfl, hz, q1, q2⟩ := h
    refine ⟨_, (pss_cons (ps_expr (pe_callS (ok_need_bits T) (hr.mono (by decide)) (by rfl) T.g_need_bits T.F_need_bits.kp T.B_need_bits psE (pa_cons (pv 0) pa_nil)))
    (pss_cons (ps_set (i := 1) sc_need_tree.nd rfl (.inl rfl) pe_int)
    (pss_cons (ps_for (passes_of rfl) rfl (pi_enumSK (K := K) rfl (by rfl) T.z_enumerate (pa_cons (pv 0) pa_nil) (by rfl)) (pg_tupK (K := K) rfl rfl (pgs_cons (pg_name (i := 2) sc_need_tree.nd rfl (.inl rfl)) (pgs_cons (pg_name (i := 3) sc_need_tree.nd rfl (.inl rfl)) pgs_nil)) (by rfl) (by rfl))
    (pss_cons (ps_set (i := 1) sc_need_tree.nd rfl (.inl rfl) (pe_op op_sub (pe_op op_add (pv 1) (pe_op op_mul pe_int (pe_callTy call_int_str (by rfl) T.z_int b_int (pa_cons (pv 3) pa_nil)))) pe_int))
    (pss_one (ps_if (PW.pt (pw_or (pt_cmpR op_gt (pv 1) (pe_glob (v := .int _) (by rfl) T.c_MOST_DEEP.choose_spec ⟨_, rfl⟩) (nomark _)) (pw_or1 (PW.pt (pw_and (pt_cmpR op_lt (pv 1) pe_int (nomark _)) (pw_and1 (pt_cmpR op_lt (pv 2) (pe_op op_sub (pe_callB call_len_str (by rfl) T.z_len b_len (pa_cons (pv 0) pa_nil)) pe_int) (nomark _))))))))
    (pss_one (ps_rz T.x_BadBits rfl (by decide))) pss_nil))))
    (pss_one (ps_if (PW.pt (pw_or (pt_cmpR op_ne (pv 1) pe_int (nomark _)) (pw_or (pt_cmpR op_eq (pv 0) pe_str (nomark _)) (pw_or1 (pt_cmpR op_gt (pe_callB call_len_str (by rfl) T.z_len b_len (pa_cons (pv 0) pa_nil)) (pe_op op_mul pe_int (pe_glob (v := .int _) (by rfl) T.c_MOST_NODES.choose_spec ⟨_, rfl⟩)) (nomark _))))))
    (pss_one (ps_rz T.x_BadBits rfl (by decide))) pss_nil))))), ?_⟩
    refine ⟨_, rfl, z, rfl, hz, fun hb H1 x1 => ?_, fun hb H1 x1 => q2 (fun l e => absurd ⟨l, e⟩ hb) H1 x1⟩
    obtain ⟨l, rfl⟩ := hb
    have hl : l.length ≤ 100000 := by rw [sb_len] at hz; exact hz
    have hzl : (sb l).length ≤ sizeLine := Nat.le_trans hz (by decide)
    have bad : (okT l → 2000 < l.length) → ∀ H', Xs (tK K) H H' → E (.ref (He.ga K "BadBits")) none H' := fun h => q2 fun l' e => by rw [← sb_inj e]; exact h
    have ll : (l.map bc).length = l.length := List.length_map ..
    refine ⟨_, rfl, _, rfl, for_it w_enumS (fun i σ H' => Xs (tK K) H H' ∧ (∀ j, j ≤ i → dp (l.take j) ≤ 200) ∧ (∀ j, 0 < j → j ≤ i → j < l.length → 1 ≤ dp (l.take j)) ∧ ∃ t u, σ = [some (.str (sb l)), some (.int (dp (l.take i))), t, u]) ⟨x1, fun j hj => by rw [show j = 0 by omega]; exact (by decide : (0 : Int) ≤ 200), fun j h1 h2 => by omega, none, none, rfl⟩ (fun _ _ _ _ _ => trivial) ?_ ?_⟩
    · intro i x σ Ha Hb hi hp hy
      obtain ⟨xa, h1, h2, t, u, rfl⟩ := hp
      obtain ⟨Ta, c, rfl, hn, rfl, hc⟩ := hy
      rw [List.getElem?_map] at hc
      obtain ⟨b, hb, rfl⟩ := Option.map_eq_some_iff.mp hc
      have xb := xa.trans (.new (o := .tup [.int (i : Nat), .str (S [bc b])]) hn)
      have hlt := (List.getElem?_eq_some_iff.mp hb).1
      have ed : dp (l.take (i + 1)) = dp (l.take i) + 2 * (b.toNat : Int) - 1 := by rw [List.take_add_one, hb]; exact dp_snoc _ _
      refine ⟨Ta, _, rfl, .inl (.inl (upd_same ..)), rfl, _, _, rfl, _, _, rfl, rfl, ?_⟩
      refine ⟨_, rfl, _, rfl, _, _, rfl, int_bit b, by rw [S_len]; exact (by decide : 1 ≤ 640), _, _, rfl, rfl, .inl ⟨by decide, by decide⟩, _, _, rfl, rfl, _, _, rfl, rfl, ?_⟩
      show gName 1 (V.int (dp (l.take i) + 2 * (b.toNat : Int) - 1)) _ _ _
      rw [← ed]
      have next : dp (l.take (i + 1)) ≤ 200 → (i + 1 < l.length → 1 ≤ dp (l.take (i + 1))) → (∀ j, j ≤ i + 1 → dp (l.take j) ≤ 200) ∧ (∀ j, 0 < j → j ≤ i + 1 → j < l.length → 1 ≤ dp (l.take j)) := fun n1 n2 => by
        refine ⟨fun j hj => ?_, fun j hj0 hj hjl => ?_⟩
        · by_cases e : j = i + 1
          · rw [e]; exact n1
          · exact h1 j (by omega)
        · by_cases e : j = i + 1
          · rw [e] at hjl ⊢; exact n2 hjl
          · exact h2 j hj0 (by omega) hjl
      refine ⟨_, rfl, _, _, rfl, rfl, _, rfl, ite2 (fun h3 => ?_) (fun h3 => ?_)⟩
      · have h3 := of_decide_eq_true h3
        refine iteT (bad (fun ok => ?_) _ xb)
        have := ok.top (i + 1) (by omega)
        omega
      · have h3 : dp (l.take (i + 1)) ≤ 200 := by simp only [decide_eq_true_eq] at h3; omega
        refine ⟨_, rfl, _, _, rfl, rfl, _, rfl, ite2 (fun h4 => ?_) (fun h4 => ?_)⟩
        · have h4 := of_decide_eq_true h4
          refine ⟨_, rfl, _, rfl, _, rfl, hzl, _, _, rfl, rfl, _, _, rfl, rfl, _, rfl, ite2 (fun h5 => ?_) (fun h5 => ?_)⟩
          · have h5 := of_decide_eq_true h5
            rw [sb_len] at h5
            refine bad (fun ok => ?_) _ xb
            have := ok.mid (i + 1) (by omega) (by omega)
            omega
          · simp only [decide_eq_true_eq, sb_len] at h5
            obtain ⟨n1, n2⟩ := next h3 (by omega)
            exact ⟨xb, n1, n2, some (.int (i : Nat)), some (.str (S [bc b])), rfl⟩
        · simp only [decide_eq_true_eq] at h4
          obtain ⟨n1, n2⟩ := next h3 (by omega)
          exact iteF ⟨xb, n1, n2, some (.int (i : Nat)), some (.str (S [bc b])), rfl⟩
    · intro σ Ha hp
      obtain ⟨xa, h1, h2, t, u, rfl⟩ := hp
      rw [ll, List.take_length] at *
      refine ⟨_, rfl, rfl, _, rfl, ite2 (fun h3 => ?_) (fun h3 => ?_)⟩
      · refine iteT (bad (fun ok => ?_) _ xa)
        rw [ok.fin] at h3
        simp at h3
      have h3 : dp l = 0 := by
        by_cases e : dp l = 0
        · exact e
        · exact absurd (by rw [decide_eq_false (fun z => e (V.int.inj z))]; rfl) h3
      refine ⟨_, rfl, rfl, _, rfl, ite2 (fun h4 => ?_) (fun h4 => ?_)⟩
      · refine iteT (bad (fun ok => ?_) _ xa)
        have h4 := V.str.inj (of_decide_eq_true h4)
        exact absurd (sb_inj (h4.trans sb_nil)) ok.ne
      have hne : l ≠ [] := fun z => h4 (decide_eq_true (by rw [z, sb_nil]))
      refine ⟨_, rfl, _, rfl, hzl, _, _, rfl, rfl, .inl ⟨by decide, by decide⟩, _, _, rfl, rfl, _, rfl, ite2 (fun h5 => ?_) (fun h5 => ?_)⟩
      · have h5 := of_decide_eq_true h5
        rw [sb_len] at h5
        exact bad (fun _ => by omega) _ xa
      · simp only [decide_eq_true_eq, sb_len] at h5
        exact q1 l rfl ⟨hne, fun i hi hil => h2 i hi (by omega) hil, h3, h1⟩ (by omega) Ha xa
end
end Tw

set_option maxHeartbeats 4000000
namespace Tw
open PySem PySem.Spec PyProof.Rows L2 LamX
section
variable {P : Program} {w : World} {K : PySem.W.Frag} {mg : Str → Option Value} {base : Heap}
/-! ### a row -/
def cts (l : List Bool) : List Nat := (List.range (l.length / 32)).map fun j => cn true l ((j + 1) * 32)
def rowF (l : List Bool) : List (Str × V) := [("own", .str (sb l)), ("wide", .int (nd l.length)), ("whole_blocks", .int ((l.length / 32 : Nat) : Int)), ("counts", .str (sb (pk (cts l) (nd l.length))))]
def RowAt (K : PySem.W.Frag) (H : Hp) (r : Addr) (l : List Bool) (n : Int) : Prop := l.length ≤ 4096 ∧ ∃ dx, H r = some (.ins (He.ga K "Row") dx (rowF l ++ sn n))
theorem RowAt.xs {H H' : Hp} {r : Addr} {l : List Bool} {n : Int} {T : List (Addr × Str)} (h : RowAt K H r l n) (x : Xs T H H') : RowAt K H' r l n := ⟨h.1, h.2.choose, x.same h.2.choose_spec fun ps z => by cases z⟩
theorem RowAt.xt {H H' : Hp} {r : Addr} {l : List Bool} {n : Int} {T : List (Addr × Str)} (h : RowAt K H r l n) (x : Xt T H H') : ∃ n', RowAt K H' r l n' := by
  obtain ⟨hl, dx, e⟩ := h
  obtain ⟨n', e2⟩ := x.insSeen e
  exact ⟨n', hl, dx, e2⟩
theorem RowAt.see {H : Hp} {r : Addr} {l : List Bool} {n n' : Int} {T : List (Addr × Str)} {dx : Addr} (h : H r = some (.ins (He.ga K "Row") dx (rowF l ++ sn n))) (hl : l.length ≤ 4096) : Xt T H (upd H r (.ins (He.ga K "Row") dx (rowF l ++ sn n'))) ∧ RowAt K (upd H r (.ins (He.ga K "Row") dx (rowF l ++ sn n'))) r l n' := ⟨.see trivial h, hl, dx, upd_same ..⟩
theorem own_len {l : List Bool} (h : l.length ≤ 4096) : (sb l).length ≤ sizeLine := by rw [sb_len]; exact Nat.le_trans h (by decide)
def spNeed (K : PySem.W.Frag) : Sp := fun vs H Q E => ∃ (r : Addr) (b : Bool), vs = [.ref r, .bl b] ∧ (b = true → Q .non H) ∧ (b = false → E (.ref (He.ga K "BadPlace")) none H)
theorem ok_Row_need (T : Tx K mg) : OkN P w K mg base ("Row", some "need") 1 ["self", "good"] (spNeed K) := by
  refine T.F_Row_need.ok sc_Row_need (fun vs H Q E h => ?_) (fun cdv A outer s H vs Q E hr h => ?_)
  · obtain ⟨r, b, rfl, _⟩ := h
    rfl
  · obtain ⟨r, b, rfl, q1, q2⟩ := h
    refine ⟨_, (pss_one (ps_if (pt_not (pt_val (pv 1)))
    (pss_one (ps_rz T.x_BadPlace rfl (by decide))) pss_nil)), ?_⟩
    cases b with
    | true => exact ⟨_, rfl, true, rfl, iteF (q1 rfl)⟩
    | false => exact ⟨_, rfl, false, rfl, iteT (q2 rfl)⟩
def spSize (K : PySem.W.Frag) : Sp := fun vs H Q E => ∃ (r : Addr) (l : List Bool) (n : Int), vs = [.ref r] ∧ RowAt K H r l n ∧ Q (.int l.length) H
theorem ok_Row_size (T : Tx K mg) : OkN P w K mg base ("Row", some "size") 1 ["self"] (spSize K) := by
  refine T.F_Row_size.ok sc_Row_size (fun vs H Q E h => ?_) (fun cdv A outer s H vs Q E hr h => ?_)
  · obtain ⟨r, l, n, rfl, _⟩ := h
    rfl
  · obtain ⟨r, l, n, rfl, ⟨hl, dx, e⟩, q⟩ := h
    refine ⟨_, (pss_one (ps_ret (pe_callB call_len_str (by rfl) T.z_len b_len (pa_cons (pe_fldK (K := K) rfl (pv 0) (by rfl)) pa_nil)))), ?_⟩
    refine ⟨_, rfl, r, _, dx, _, _, rfl, e, T.k_Row, T.n_Row_own, rfl, _, rfl, own_len hl, ?_⟩
    rw [sb_len]
    exact q
def spBits (K : PySem.W.Frag) : Sp := fun vs H Q E => ∃ (r : Addr) (l : List Bool) (n : Int), vs = [.ref r] ∧ RowAt K H r l n ∧ Q (.str (sb l)) H
theorem ok_Row_bits (T : Tx K mg) : OkN P w K mg base ("Row", some "bits") 1 ["self"] (spBits K) := by
  refine T.F_Row_bits.ok sc_Row_bits (fun vs H Q E h => ?_) (fun cdv A outer s H vs Q E hr h => ?_)
  · obtain ⟨r, l, n, rfl, _⟩ := h
    rfl
  · obtain ⟨r, l, n, rfl, ⟨hl, dx, e⟩, q⟩ := h
    refine ⟨_, (pss_one (ps_ret (pe_fldK (K := K) rfl (pv 0) (by rfl)))), ?_⟩
    exact ⟨_, rfl, r, _, dx, _, _, rfl, e, T.k_Row, T.n_Row_own, rfl, q⟩
def spLook (K : PySem.W.Frag) : Sp := fun vs H Q E => ∃ (r : Addr) (l : List Bool) (n : Int) (p : Nat) (b : Bool), vs = [.ref r, .int p] ∧ RowAt K H r l n ∧ l[p]? = some b ∧ ∀ H', Xt (tK K) H H' → RowAt K H' r l (n + 1) → Q (.int b.toNat) H'
theorem ok_Row_look (T : Tx K mg) : OkN P w K mg base ("Row", some "look") 1 ["self", "place"] (spLook K) := by
  refine T.F_Row_look.ok sc_Row_look (fun vs H Q E h => ?_) (fun cdv A outer s H vs Q E hr h => ?_)
  · obtain ⟨r, l, n, p, b, rfl, _⟩ := h
    rfl
  · obtain ⟨r, l, n, p, b, rfl, ⟨hl, dx, e⟩, hb, q⟩ := h
    refine ⟨_, (pss_cons (ps_fld (pv 0) (pe_op op_add (pe_fldK (K := K) rfl (pv 0) (by rfl)) pe_int) rfl)
    (pss_one (ps_ret (pe_callTy call_int_str (by rfl) T.z_int b_int (pa_cons (pe_ix ix_str (pe_fldK (K := K) rfl (pv 0) (by rfl)) (pv 1) (fun _ _ => rfl)) pa_nil))))), ?_⟩
    refine ⟨_, rfl, r, _, dx, _, _, rfl, e, T.k_Row, T.n_Row_seen, rfl, _, _, rfl, rfl, _, rfl, r, _, dx, _, rfl, e, T.k_Row, T.n_Row_seen, by exact (by decide : 5 < 1000), ?_⟩
    obtain ⟨x1, r1⟩ := RowAt.see (T := tK K) (n' := n + 1) e hl
    have e1 := upd_same (H := H) (a := r) (o := .ins (He.ga K "Row") dx (rowF l ++ sn (n + 1)))
    refine ⟨_, rfl, r, _, dx, _, _, rfl, e1, T.k_Row, T.n_Row_own, rfl, _, rfl, sb l, _, bc b, rfl, rfl, own_len hl, atI_nat ?_, _, _, rfl, int_bit b, by exact (by decide : 1 ≤ 640), q _ x1 r1⟩
    show (l.map bc)[p]? = _
    rw [List.getElem?_map, hb]
    rfl
def spBit (K : PySem.W.Frag) : Sp := fun vs H Q E => ∃ (r : Addr) (l : List Bool) (n p : Int), vs = [.ref r, .int p] ∧ RowAt K H r l n ∧ (∀ (j : Nat) b, p = j → l[j]? = some b → ∀ H', Xt (tK K) H H' → RowAt K H' r l (n + 1) → Q (.int b.toNat) H') ∧ ((p < 0 ∨ l.length ≤ p) → E (.ref (He.ga K "BadPlace")) none H)
theorem ok_Row_bit (T : Tx K mg) : OkN P w K mg base ("Row", some "bit") 2 ["self", "place"] (spBit K) := by
  refine T.F_Row_bit.ok sc_Row_bit (fun vs H Q E h => ?_) (fun cdv A outer s H vs Q E hr h => ?_)
  · obtain ⟨r, l, n, p, rfl, _⟩ := h
    rfl
  · obtain ⟨r, l, n, p, rfl, ⟨hl, dx, e⟩, q1, q2⟩ := h
    refine ⟨_, (pss_cons (ps_expr (pe_meth (dvs := []) (pv 0) T.k_Row T.M_Row_need (ok_Row_need T) (hr.mono (by decide)) T.B_Row_need .nil psP (pa_cons (pe_chain op_le op_lt pe_int (pv 1) (pe_callB call_len_str (by rfl) T.z_len b_len (pa_cons (pe_fldK (K := K) rfl (pv 0) (by rfl)) pa_nil))) pa_nil)))
    (pss_one (ps_ret (pe_meth (dvs := []) (pv 0) T.k_Row T.M_Row_look (ok_Row_look T) (hr.mono (by decide)) T.B_Row_look .nil psP (pa_cons (pv 1) pa_nil))))), ?_⟩
    refine ⟨_, rfl, r, dx, _, rfl, e, rfl, _, rfl, _, _, rfl, rfl, _, rfl, ite2 (fun h0 => ?_) (fun h0 => ?_)⟩
    · simp only [decide_eq_true_eq] at h0
      refine ⟨_, rfl, r, _, dx, _, _, rfl, e, T.k_Row, T.n_Row_own, rfl, _, rfl, own_len hl, _, _, rfl, rfl, r, _, rfl, fun h1 => ?_, fun h1 => ?_⟩
      · have h1 := of_decide_eq_true h1
        rw [sb_len] at h1
        obtain ⟨j, rfl⟩ : ∃ j : Nat, p = j := ⟨p.toNat, by omega⟩
        have hj : j < l.length := by omega
        have hb : l[j]? = some l[j] := List.getElem?_eq_getElem hj
        exact ⟨_, rfl, r, dx, _, rfl, e, rfl, _, rfl, r, l, n, j, l[j], rfl, ⟨hl, dx, e⟩, hb, fun H' x' r' => q1 j _ rfl hb H' x' r'⟩
      · have h1 := of_decide_eq_false h1
        rw [sb_len] at h1
        exact q2 (.inr (by omega))
    · simp only [decide_eq_true_eq] at h0
      exact ⟨r, false, rfl, fun z => (nomatch z), fun _ => q2 (.inl (by omega))⟩
theorem cts_get {l : List Bool} {j : Nat} (h : j < l.length / 32) : (cts l)[j]? = some (cn true l ((j + 1) * 32)) := by
  unfold cts
  rw [List.getElem?_map, List.getElem?_range h]
  rfl
theorem cts_len (l : List Bool) : (cts l).length = l.length / 32 := by unfold cts; rw [List.length_map, List.length_range]
theorem nd_len {l : List Bool} (h : l.length ≤ 4096) : nd l.length ≤ 13 := (nd_le _ _).mpr (by omega)
def spUpTo (K : PySem.W.Frag) : Sp := fun vs H Q E => ∃ (r : Addr) (l : List Bool) (n : Int) (c : Nat), vs = [.ref r, .int c] ∧ RowAt K H r l n ∧ c ≤ l.length / 32 ∧ ∀ H', Xs (tK K) H H' → Q (.int (cn true l (c * 32))) H'
theorem ok_Row_up_to (T : Tx K mg) : OkN P w K mg base ("Row", some "up_to") 4 ["self", "block"] (spUpTo K) := by
  refine T.F_Row_up_to.ok sc_Row_up_to (fun vs H Q E h => ?_) (fun cdv A outer s H vs Q E hr h => ?_)
  · obtain ⟨r, l, n, c, rfl, _⟩ := h
    rfl
  · obtain ⟨r, l, n, c, rfl, ⟨hl, dx, e⟩, hc, q⟩ := h
    refine ⟨_, (pss_cons (ps_if (pt_cmpR op_eq (pv 1) pe_int (nomark _))
    (pss_one (ps_ret pe_int)) pss_nil)
    (pss_one (ps_ret (pe_callS (ok_number_at T) (hr.mono (by decide)) (by rfl) T.g_number_at T.F_number_at.kp T.B_number_at psE (pa_cons (pe_fldK (K := K) rfl (pv 0) (by rfl)) (pa_cons (pe_fldK (K := K) rfl (pv 0) (by rfl)) (pa_cons (pe_op op_sub (pv 1) pe_int) pa_nil))))))), ?_⟩
    refine ⟨_, rfl, rfl, _, rfl, ite2 (fun h0 => ?_) (fun h0 => ?_)⟩
    · have h0 := V.int.inj (of_decide_eq_true h0)
      have h0 : c = 0 := by omega
      subst h0
      exact q H .refl
    · have h0 : c ≠ 0 := fun z => h0 (decide_eq_true (by rw [z]; rfl))
      have hw := nd_len hl
      have hlen : (sb (pk (cts l) (nd l.length))).length = l.length / 32 * nd l.length := by rw [sb_len, pk_len, cts_len]
      have hsz : l.length / 32 * nd l.length ≤ 100000 := Nat.le_trans (Nat.mul_le_mul (show l.length / 32 ≤ 128 by omega) hw) (by decide)
      have hl0 : 0 < l.length := by omega
      have hnd : 0 < nd l.length := (nd_lo2 hl0)
      have hj : (c - 1) < l.length / 32 := by omega
      have hle : (c - 1 + 1) * nd l.length ≤ l.length / 32 * nd l.length := Nat.mul_le_mul_right _ hj
      have hpos : 0 < l.length / 32 * nd l.length := Nat.mul_pos (by omega) hnd
      refine ⟨_, rfl, r, _, dx, _, _, rfl, e, T.k_Row, T.n_Row_counts, rfl, _, rfl, r, _, dx, _, _, rfl, e, T.k_Row, T.n_Row_wide, rfl, _, rfl, _, _, rfl, rfl, _, nd l.length, (c : Int) - 1, rfl, by rw [hlen]; exact hsz, by omega, fun l' j e1 g ej hj2 hne H' x' => ?_, fun g => absurd (good_pk _ _) g, fun _ hb => ?_⟩
      · have e1 := sb_inj e1
        subst e1
        have ej : j = c - 1 := by omega
        subst ej
        rw [part_pk _ _ _ _ (cts_get hj), bn_vb_lt, show c - 1 + 1 = c by omega]
        · exact q H' x'
        · refine (nd_le _ _).mp (Nat.le_trans ?_ (Nat.le_refl _))
          refine (nd_le _ _).mpr ?_
          have h1 : cn true l ((c - 1 + 1) * 32) ≤ (c - 1 + 1) * 32 := cn_le
          have h2 : l.length < 2 ^ nd l.length := (nd_le _ _).mp (Nat.le_refl _)
          omega
      · exfalso
        rw [hlen] at hb
        have e2 : ((c : Int) - 1 + 1) * ((nd l.length : Nat) : Int) = (((c - 1 + 1) * nd l.length : Nat) : Int) := by
          rw [Int.natCast_mul]
          congr 1
          omega
        rw [e2] at hb
        omega
def spOnes (K : PySem.W.Frag) : Sp := fun vs H Q E => ∃ (r : Addr) (l : List Bool) (n p : Int), vs = [.ref r, .int p] ∧ RowAt K H r l n ∧ (∀ (j : Nat), p = j → j ≤ l.length → ∀ H', Xt (tK K) H H' → RowAt K H' r l (n + (j % 32 : Nat)) → Q (.int (cn true l j)) H') ∧ ((p < 0 ∨ l.length < p) → E (.ref (He.ga K "BadPlace")) none H)
theorem ok_Row_ones (T : Tx K mg) : OkN P w K mg base ("Row", some "ones") 5 ["self", "place"] (spOnes K) := by
  refine T.F_Row_ones.ok sc_Row_ones (fun vs H Q E h => ?_) (fun cdv A outer s H vs Q E hr h => ?_)
  · obtain ⟨r, l, n, p, rfl, _⟩ := h
    rfl
  · obtain ⟨r, l, n, p, rfl, ⟨hl, dx, e⟩, q1, q2⟩ := h
    refine ⟨_, (pss_cons (ps_expr (pe_meth (dvs := []) (pv 0) T.k_Row T.M_Row_need (ok_Row_need T) (hr.mono (by decide)) T.B_Row_need .nil psP (pa_cons (pe_chain op_le op_le pe_int (pv 1) (pe_callB call_len_str (by rfl) T.z_len b_len (pa_cons (pe_fldK (K := K) rfl (pv 0) (by rfl)) pa_nil))) pa_nil)))
    (pss_cons (ps_set (i := 2) sc_Row_ones.nd rfl (.inl rfl) (pe_op op_fdivW (pv 1) (pe_glob (v := .int _) (by rfl) T.c_BLOCK.choose_spec ⟨_, rfl⟩)))
    (pss_one (ps_ret (pe_op op_add (pe_meth (dvs := []) (pv 0) T.k_Row T.M_Row_up_to (ok_Row_up_to T) (hr.mono (by decide)) T.B_Row_up_to .nil psP (pa_cons (pv 2) pa_nil)) (pe_callB (cr_sumK (K := K) rfl rfl) (by rfl) T.z_sum b_sum (pa_cons (pe_lc (own := [("at", 3)]) rfl sc_Row_ones.nd (pi_range2 (by rfl) T.z_range (pa_cons (pe_op op_mul (pv 2) (pe_glob (v := .int _) (by rfl) T.c_BLOCK.choose_spec ⟨_, rfl⟩)) (pa_cons (pv 1) pa_nil))) (blkOk_by (N := N_Row_ones) (sc := defScope s_Row_ones) (by decide +kernel)) (fun _ _ _ _ _ => (pg_name (i := 3) sc_Row_ones.nd rfl (.inl rfl))) (fun _ _ _ _ _ => pts_nil) (fun _ _ _ _ _ => (pe_meth (dvs := []) (pv 0) T.k_Row T.M_Row_look (ok_Row_look T) (hr.mono (by decide)) T.B_Row_look .nil psP0 (pa_cons (pv 3) pa_nil)))) pa_nil))))))), ?_⟩
    refine ⟨_, rfl, r, dx, _, rfl, e, rfl, _, rfl, _, _, rfl, rfl, _, rfl, ite2 (fun h0 => ?_) (fun h0 => ?_)⟩
    · simp only [decide_eq_true_eq] at h0
      refine ⟨_, rfl, r, _, dx, _, _, rfl, e, T.k_Row, T.n_Row_own, rfl, _, rfl, own_len hl, _, _, rfl, rfl, r, _, rfl, fun h1 => ?_, fun h1 => ?_⟩
      · have h1 := of_decide_eq_true h1
        rw [sb_len] at h1
        obtain ⟨j, rfl⟩ : ∃ j : Nat, p = j := ⟨p.toNat, by omega⟩
        have hj : j ≤ l.length := by omega
        refine ⟨_, rfl, _, _, rfl, rfl, wide_div (b := 6) (by decide) (by decide) (by decide) (by decide), ?_⟩
        have ed : (j : Int) / 32 = ((j / 32 : Nat) : Int) := by omega
        show gName 2 (V.int ((j : Int) / 32)) _ _ _
        rw [ed]
        refine ⟨_, rfl, r, dx, _, rfl, e, rfl, _, rfl, r, l, n, j / 32, rfl, ⟨hl, dx, e⟩, by omega, fun H1 x1 => ?_⟩
        have r1 := RowAt.xs ⟨hl, dx, e⟩ x1
        have hne : ∀ D, H1 D = none → r ≠ D := fun D hD z => by
          obtain ⟨_, dx1, e1⟩ := r1
          rw [z, hD] at e1
          cases e1
        refine ⟨_, rfl, _, _, rfl, rfl, .inl ⟨by omega, by omega⟩, _, rfl, _, _, rfl, ⟨by omega, by omega, by omega, by omega⟩, fun D hD => lcI (lo := True) (T := tK K) (fun i H' => RowAt K H' r l (n + (i : Nat))) w_range hD (by omega) (fun _ _ _ _ => trivial) (by rw [show n + ((0 : Nat) : Int) = n by omega]; exact r1) (fun i H' xs _ h => ⟨h.1, h.2.choose, by rw [upd_ne (hne D hD)]; exact h.2.choose_spec⟩) (fun i => .int ((l.getD (j / 32 * 32 + i) false).toNat : Nat)) ?_ fun H2 x2 r2 e2 => ?_⟩
        · intro i x H2 hi hy x2 r2 Q q
          have ex : ((j / 32 : Nat) : Int) * 32 + (i : Int) = ((j / 32 * 32 + i : Nat) : Int) := by omega
          rw [ex] at hy
          subst hy
          have hb : l[j / 32 * 32 + i]? = some l[j / 32 * 32 + i] := List.getElem?_eq_getElem (by omega)
          have eg : l.getD (j / 32 * 32 + i) false = l[j / 32 * 32 + i] := by rw [List.getD_eq_getElem?_getD, hb]; rfl
          rw [eg] at q
          obtain ⟨_, dx2, e2⟩ := r2
          refine ⟨_, rfl, r, dx2, _, rfl, e2, rfl, _, rfl, r, l, n + (i : Nat), _, _, rfl, ⟨hl, dx2, e2⟩, hb, fun H3 x3 r3 => q H3 x3 ?_⟩
          rw [show n + ((i + 1 : Nat) : Int) = n + (i : Int) + 1 by omega]
          exact r3
        · have ek : ((j : Int) - ((j / 32 : Nat) : Int) * 32).toNat = j % 32 := by omega
          rw [ek] at e2 r2
          refine ⟨D, (List.range (j % 32)).map fun i => (((l.getD (j / 32 * 32 + i) false).toNat : Nat) : Int), rfl, SqL.of (by rw [e2, List.map_map]; rfl), _, _, rfl, rfl, ?_⟩
          rw [sum_bits l (j / 32 * 32) (j % 32) (by omega), show j / 32 * 32 + j % 32 = j by omega]
          show Q (.int (((cn true l (j / 32 * 32) : Nat) : Int) + (((cn true l j : Nat) : Int) - ((cn true l (j / 32 * 32) : Nat) : Int)))) H2
          rw [show ((cn true l (j / 32 * 32) : Nat) : Int) + (((cn true l j : Nat) : Int) - ((cn true l (j / 32 * 32) : Nat) : Int)) = ((cn true l j : Nat) : Int) by omega]
          exact q1 j rfl hj H2 (x1.up.trans x2) r2
      · have h1 := of_decide_eq_false h1
        rw [sb_len] at h1
        exact q2 (.inr (by omega))
    · simp only [decide_eq_true_eq] at h0
      exact ⟨r, false, rfl, fun z => (nomatch z), fun _ => q2 (.inl (by omega))⟩
def spNoughts (K : PySem.W.Frag) : Sp := fun vs H Q E => ∃ (r : Addr) (l : List Bool) (n p : Int), vs = [.ref r, .int p] ∧ RowAt K H r l n ∧ (∀ (j : Nat), p = j → j ≤ l.length → ∀ H', Xt (tK K) H H' → RowAt K H' r l (n + (j % 32 : Nat)) → Q (.int (cn false l j)) H') ∧ ((p < 0 ∨ l.length < p) → E (.ref (He.ga K "BadPlace")) none H)
theorem ok_Row_noughts (T : Tx K mg) : OkN P w K mg base ("Row", some "noughts") 6 ["self", "place"] (spNoughts K) := by
  refine T.F_Row_noughts.ok sc_Row_noughts (fun vs H Q E h => ?_) (fun cdv A outer s H vs Q E hr h => ?_)
  · obtain ⟨r, l, n, p, rfl, _⟩ := h
    rfl
  · obtain ⟨r, l, n, p, rfl, ⟨hl, dx, e⟩, q1, q2⟩ := h
    refine ⟨_, (pss_one (ps_ret (pe_op op_sub (pv 1) (pe_meth (dvs := []) (pv 0) T.k_Row T.M_Row_ones (ok_Row_ones T) (hr.mono (by decide)) T.B_Row_ones .nil psP (pa_cons (pv 1) pa_nil))))), ?_⟩
    refine ⟨_, rfl, _, rfl, r, dx, _, rfl, e, rfl, _, rfl, r, l, n, p, rfl, ⟨hl, dx, e⟩, fun j ej hj H' x' r' => ⟨_, _, rfl, rfl, ?_⟩, q2⟩
    subst ej
    have := cn_two (l := l) hj
    show Q (.int ((j : Int) - (cn true l j : Nat))) H'
    rw [show (j : Int) - ((cn true l j : Nat) : Int) = ((cn false l j : Nat) : Int) by omega]
    exact q1 j rfl hj H' x' r'
def spAhead (K : PySem.W.Frag) : Sp := fun vs H Q E => ∃ (r : Addr) (l : List Bool) (n : Int) (c : Nat) (b : Bool), vs = [.ref r, .int c, .int b.toNat] ∧ RowAt K H r l n ∧ c ≤ l.length / 32 ∧ ∀ H', Xs (tK K) H H' → Q (.int (cn b l (c * 32))) H'
theorem ok_Row_ahead (T : Tx K mg) : OkN P w K mg base ("Row", some "ahead") 5 ["self", "block", "sign"] (spAhead K) := by
  refine T.F_Row_ahead.ok sc_Row_ahead (fun vs H Q E h => ?_) (fun cdv A outer s H vs Q E hr h => ?_)
  · obtain ⟨r, l, n, c, b, rfl, _⟩ := h
    rfl
  · obtain ⟨r, l, n, c, b, rfl, ⟨hl, dx, e⟩, hc, q⟩ := h
    refine ⟨_, (pss_cons (ps_if (pt_cmpR op_eq (pv 2) pe_int (nomark _))
    (pss_one (ps_ret (pe_meth (dvs := []) (pv 0) T.k_Row T.M_Row_up_to (ok_Row_up_to T) (hr.mono (by decide)) T.B_Row_up_to .nil psP (pa_cons (pv 1) pa_nil)))) pss_nil)
    (pss_one (ps_ret (pe_op op_sub (pe_op op_mul (pv 1) (pe_glob (v := .int _) (by rfl) T.c_BLOCK.choose_spec ⟨_, rfl⟩)) (pe_meth (dvs := []) (pv 0) T.k_Row T.M_Row_up_to (ok_Row_up_to T) (hr.mono (by decide)) T.B_Row_up_to .nil psP (pa_cons (pv 1) pa_nil)))))), ?_⟩
    refine ⟨_, rfl, rfl, _, rfl, ite2 (fun h0 => ?_) (fun h0 => ?_)⟩
    · have h0 := V.int.inj (of_decide_eq_true h0)
      have hb : b = true := by cases b with
        | true => rfl
        | false => cases h0
      subst hb
      exact ⟨_, rfl, r, dx, _, rfl, e, rfl, _, rfl, r, l, n, c, rfl, ⟨hl, dx, e⟩, hc, q⟩
    · have hb : b = false := by cases b with
        | true => exact absurd (decide_eq_true rfl) h0
        | false => rfl
      subst hb
      refine ⟨_, rfl, _, _, rfl, rfl, .inl ⟨by omega, by omega⟩, _, rfl, r, dx, _, rfl, e, rfl, _, rfl, r, l, n, c, rfl, ⟨hl, dx, e⟩, hc, fun H' x' => ⟨_, _, rfl, rfl, ?_⟩⟩
      have := cn_two (l := l) (p := c * 32) (by omega)
      show Q (.int ((c : Int) * 32 - (cn true l (c * 32) : Nat))) H'
      rw [show (c : Int) * 32 - ((cn true l (c * 32) : Nat) : Int) = ((cn false l (c * 32) : Nat) : Int) by omega]
      exact q H' x'
def spFound (K : PySem.W.Frag) : Sp := fun vs H Q E => ∃ (r : Addr) (l : List Bool) (n a : Int) (b : Bool), vs = [.ref r, .int a, .int b.toNat] ∧ RowAt K H r l n ∧ (∀ (j : Nat) (m : Int), a = j → ∀ H', Xt (tK K) H H' → RowAt K H' r l m → n ≤ m → m ≤ n + 32 → Q (on (pos b l)[j]?) H') ∧ (a < 0 → E (.ref (He.ga K "BadPlace")) none H)
theorem ok_Row_found_at (T : Tx K mg) : OkN P w K mg base ("Row", some "found_at") 6 ["self", "number", "sign"] (spFound K) := by
  refine T.F_Row_found_at.ok sc_Row_found_at (fun vs H Q E h => ?_) (fun cdv A outer s H vs Q E hr h => ?_)
  · obtain ⟨r, l, n, a, b, rfl, _⟩ := h
    rfl
  · obtain ⟨r, l, n, a, b, rfl, ⟨hl, dx, e⟩, q1, q2⟩ := h
    refine ⟨_, (pss_cons (ps_expr (pe_meth (dvs := []) (pv 0) T.k_Row T.M_Row_need (ok_Row_need T) (hr.mono (by decide)) T.B_Row_need .nil psP (pa_cons (pe_cmpR op_ge (pv 1) pe_int (nomark _)) pa_nil)))
    (pss_cons (ps_set (i := 3) sc_Row_found_at.nd rfl (.inl rfl) pe_int)
    (pss_cons (ps_set (i := 4) sc_Row_found_at.nd rfl (.inl rfl) (pe_fldK (K := K) rfl (pv 0) (by rfl)))
    (pss_cons (ps_while (passes_of rfl) (pt_cmpR op_lt (pv 3) (pv 4) (nomark _))
    (pss_cons (ps_set (i := 5) sc_Row_found_at.nd rfl (.inl rfl) (pe_op op_fdiv (pe_op op_add (pe_op op_add (pv 3) (pv 4)) pe_int) pe_int))
    (pss_one (ps_if (pt_cmpR op_le (pe_meth (dvs := []) (pv 0) T.k_Row T.M_Row_ahead (ok_Row_ahead T) (hr.mono (by decide)) T.B_Row_ahead .nil psP (pa_cons (pv 5) (pa_cons (pv 2) pa_nil))) (pv 1) (nomark _))
    (pss_one (ps_set (i := 3) sc_Row_found_at.nd rfl (.inl rfl) (pv 5))) (pss_one (ps_set (i := 4) sc_Row_found_at.nd rfl (.inl rfl) (pe_op op_sub (pv 5) pe_int)))))))
    (pss_cons (ps_set (i := 6) sc_Row_found_at.nd rfl (.inl rfl) (pe_op op_sub (pv 1) (pe_meth (dvs := []) (pv 0) T.k_Row T.M_Row_ahead (ok_Row_ahead T) (hr.mono (by decide)) T.B_Row_ahead .nil psP (pa_cons (pv 3) (pa_cons (pv 2) pa_nil)))))
    (pss_cons (ps_for (passes_of rfl) rfl (pi_range2 (by rfl) T.z_range (pa_cons (pe_op op_mul (pv 3) (pe_glob (v := .int _) (by rfl) T.c_BLOCK.choose_spec ⟨_, rfl⟩)) (pa_cons (pe_callB (call_min2 rfl) (by rfl) T.z_min b_min (pa_cons (pe_callB call_len_str (by rfl) T.z_len b_len (pa_cons (pe_fldK (K := K) rfl (pv 0) (by rfl)) pa_nil)) (pa_cons (pe_op op_mul (pe_op op_add (pv 3) pe_int) (pe_glob (v := .int _) (by rfl) T.c_BLOCK.choose_spec ⟨_, rfl⟩)) pa_nil))) pa_nil))) (pg_name (i := 7) sc_Row_found_at.nd rfl (.inl rfl))
    (pss_one (ps_if (pt_cmpR op_eq (pe_meth (dvs := []) (pv 0) T.k_Row T.M_Row_look (ok_Row_look T) (hr.mono (by decide)) T.B_Row_look .nil psP (pa_cons (pv 7) pa_nil)) (pv 2) (nomark _))
    (pss_cons (ps_if (pt_cmpR op_eq (pv 6) pe_int (nomark _))
    (pss_one (ps_ret (pv 7))) pss_nil)
    (pss_one (ps_set (i := 6) sc_Row_found_at.nd rfl (.inl rfl) (pe_op op_sub (pv 6) pe_int)))) pss_nil)))
    (pss_one (ps_ret pe_non)))))))), ?_⟩
    refine ⟨_, rfl, r, dx, _, rfl, e, rfl, _, rfl, _, _, rfl, rfl, r, _, rfl, fun h0 => ?_, fun h0 => q2 (by have := of_decide_eq_false h0; omega)⟩
    have h0 := of_decide_eq_true h0
    obtain ⟨j, rfl⟩ : ∃ j : Nat, a = j := ⟨a.toNat, by omega⟩
    refine ⟨_, rfl, r, _, dx, _, _, rfl, e, T.k_Row, T.n_Row_whole_blocks, rfl, ?_⟩
    refine ⟨fun m σ H' => ∃ (lo hi : Nat) (t5 t6 t7 : Option V), lo + m = hi ∧ σ = [some (.ref r), some (.int j), some (.int b.toNat), some (.int lo), some (.int hi), t5, t6, t7] ∧ Xs (tK K) H H' ∧ hi ≤ l.length / 32 ∧ cn b l (lo * 32) ≤ j ∧ (hi = l.length / 32 ∨ j < cn b l ((hi + 1) * 32)), ⟨l.length / 32, 0, l.length / 32, none, none, none, Nat.zero_add _, rfl, .refl, Nat.le_refl _, Nat.zero_le _, .inl rfl⟩, fun m σ H' hW => ?_⟩
    obtain ⟨lo, hi, t5, t6, t7, hm, rfl, x1, hh, hlo, hhi⟩ := hW
    have r1 := RowAt.xs ⟨hl, dx, e⟩ x1
    obtain ⟨_, dx1, e1⟩ := r1
    refine ⟨_, rfl, _, rfl, _, _, rfl, rfl, _, rfl, ite2 (fun h1 => ?_) (fun h1 => ?_)⟩
    · have h1 : lo < hi := by have := of_decide_eq_true h1; omega
      refine ⟨fun σ' H'' => ∃ m' < m, ∃ (lo hi : Nat) (t5 t6 t7 : Option V), lo + m' = hi ∧ σ' = [some (.ref r), some (.int j), some (.int b.toNat), some (.int lo), some (.int hi), t5, t6, t7] ∧ Xs (tK K) H H'' ∧ hi ≤ l.length / 32 ∧ cn b l (lo * 32) ≤ j ∧ (hi = l.length / 32 ∨ j < cn b l ((hi + 1) * 32)), fun _ _ h => h, ?_⟩
      obtain ⟨mid, hmid⟩ : ∃ mid : Nat, mid = (lo + hi + 1) / 2 := ⟨_, rfl⟩
      have emid : ((lo : Int) + (hi : Int) + 1) / 2 = (mid : Int) := by omega
      refine ⟨_, rfl, _, rfl, _, _, rfl, rfl, _, _, rfl, rfl, _, _, rfl, rfl, ⟨by decide, by decide⟩, ?_⟩
      show gName 5 (V.int (((lo : Int) + (hi : Int) + 1) / 2)) _ _ _
      rw [emid]
      refine ⟨_, rfl, r, dx1, _, rfl, e1, rfl, _, rfl, _, rfl, r, l, n, mid, b, rfl, ⟨hl, dx1, e1⟩, by omega, fun H2 x2 => ⟨_, rfl, _, _, rfl, rfl, _, rfl, ite2 (fun h2 => ?_) (fun h2 => ?_)⟩⟩
      · have h2 : cn b l (mid * 32) ≤ j := by have := of_decide_eq_true h2; omega
        exact ⟨_, rfl, hi - mid, by omega, mid, hi, _, t6, t7, by omega, rfl, x1.trans x2, hh, h2, hhi⟩
      · have h2 : j < cn b l (mid * 32) := by simp only [decide_eq_true_eq] at h2; omega
        refine ⟨_, rfl, _, _, rfl, rfl, mid - 1 - lo, by omega, lo, mid - 1, some (.int mid), t6, t7, by omega, ?_, x1.trans x2, by omega, hlo, .inr ?_⟩
        · rw [show ((mid - 1 : Nat) : Int) = (mid : Int) - 1 by omega]
          rfl
        · rw [show mid - 1 + 1 = mid by omega]
          exact h2
    · have h1 : lo = hi := by simp only [decide_eq_true_eq] at h1; omega
      subst h1
      refine ⟨_, rfl, _, rfl, r, dx1, _, rfl, e1, rfl, _, rfl, _, rfl, r, l, n, lo, b, rfl, ⟨hl, dx1, e1⟩, hh, fun H2 x2 => ⟨_, _, rfl, rfl, ?_⟩⟩
      have r2 := RowAt.xs ⟨hl, dx1, e1⟩ x2
      have x2 := x1.trans x2
      obtain ⟨_, dx2, e2⟩ := r2
      have emin : (if ((lo : Int) + 1) * 32 < (((sb l).length : Nat) : Int) then ((lo : Int) + 1) * 32 else (((sb l).length : Nat) : Int)) = ((min l.length ((lo + 1) * 32) : Nat) : Int) := by
        rw [sb_len]
        split <;> omega
      refine ⟨_, rfl, _, _, rfl, rfl, .inl ⟨by omega, by omega⟩, _, rfl, r, _, dx2, _, _, rfl, e2, T.k_Row, T.n_Row_own, rfl, _, rfl, own_len hl, _, rfl, _, _, rfl, rfl, _, _, rfl, rfl, .inl ⟨by omega, by omega⟩, _, _, rfl, _, _, rfl, ?_, ?_⟩
      · rw [emin]
        exact ⟨by omega, by omega, by omega, by omega⟩
      rw [emin]
      have ek : (((min l.length ((lo + 1) * 32) : Nat) : Int) - (lo : Int) * 32).toNat = min l.length ((lo + 1) * 32) - lo * 32 := by omega
      rw [ek]
      refine for_it w_range (fun i σ H' => Xt (tK K) H H' ∧ RowAt K H' r l (n + (i : Nat)) ∧ cn b l (lo * 32 + i) ≤ j ∧ ∃ t7, σ = [some (.ref r), some (.int j), some (.int b.toNat), some (.int lo), some (.int lo), t5, some (.int ((j : Int) - (cn b l (lo * 32 + i) : Nat))), t7]) ⟨x2.up, by rw [show n + ((0 : Nat) : Int) = n by omega]; exact ⟨hl, dx2, e2⟩, hlo, t7, rfl⟩ (fun _ _ _ _ _ => trivial) ?_ ?_
      · intro i x σ Ha Hb hi p hy
        obtain ⟨xa, ⟨_, dxa, ea⟩, hj, t7, rfl⟩ := p
        obtain ⟨rfl, rfl⟩ := hy
        have ex : ((lo : Int) * 32 + (i : Int)) = ((lo * 32 + i : Nat) : Int) := by omega
        rw [ex]
        have hp : lo * 32 + i < l.length := by omega
        have hb : l[lo * 32 + i]? = some l[lo * 32 + i] := List.getElem?_eq_getElem hp
        refine ⟨_, rfl, r, dxa, _, rfl, ea, rfl, _, rfl, r, l, n + (i : Nat), _, _, rfl, ⟨hl, dxa, ea⟩, hb, fun H3 x3 r3 => ⟨_, rfl, rfl, _, rfl, ite2 (fun h3 => ?_) (fun h3 => ?_)⟩⟩
        · have h3 := V.int.inj (of_decide_eq_true h3)
          have hbb : ∀ c : Bool, ((c.toNat : Nat) : Int) = ((b.toNat : Nat) : Int) → c = b := fun c hc => by
            cases c <;> cases b <;> first | rfl | cases hc
          rw [hbb _ h3] at hb
          refine ⟨_, rfl, rfl, _, rfl, ite2 (fun h4 => ?_) (fun h4 => ?_)⟩
          · have h4 := V.int.inj (of_decide_eq_true h4)
            have h5 : cn b l (lo * 32 + i) = j := by omega
            have h6 := pos_get hb
            rw [h5] at h6
            refine ⟨_, rfl, ?_⟩
            have h7 := q1 j (n + (i : Nat) + 1) rfl H3 (xa.trans x3) r3 (by omega) (by omega)
            rw [h6] at h7
            exact h7
          · have h4 : (j : Int) - (cn b l (lo * 32 + i) : Nat) ≠ 0 := fun z => h4 (decide_eq_true (congrArg V.int z))
            have h5 : cn b l (lo * 32 + (i + 1)) = cn b l (lo * 32 + i) + 1 := by
              rw [show lo * 32 + (i + 1) = (lo * 32 + i) + 1 from rfl, cn_succ, if_pos (bt_iff.mpr hb)]
            refine ⟨_, rfl, _, _, rfl, rfl, xa.trans x3, ?_, by omega, some (.int ((lo * 32 + i : Nat) : Int)), ?_⟩
            · rw [show n + ((i + 1 : Nat) : Int) = n + (i : Int) + 1 by omega]
              exact r3
            · rw [h5, show (j : Int) - ((cn b l (lo * 32 + i) + 1 : Nat) : Int) = (j : Int) - ((cn b l (lo * 32 + i) : Nat) : Int) - 1 by omega]
              rfl
        · have h5 : cn b l (lo * 32 + (i + 1)) = cn b l (lo * 32 + i) := by
            have hne : ¬ bt b l (lo * 32 + i) = true := fun z => by
              rw [bt_iff.mp z] at hb
              exact h3 (decide_eq_true (by rw [← Option.some.inj hb]))
            rw [show lo * 32 + (i + 1) = (lo * 32 + i) + 1 from rfl, cn_succ, if_neg hne]
            rfl
          refine ⟨xa.trans x3, ?_, by omega, some (.int ((lo * 32 + i : Nat) : Int)), ?_⟩
          · rw [show n + ((i + 1 : Nat) : Int) = n + (i : Int) + 1 by omega]
            exact r3
          · rw [h5]
            rfl
      · intro σ Ha p
        obtain ⟨xa, ra, hj, t7, rfl⟩ := p
        have hend : cn b l l.length ≤ j := by
          rcases hhi with h | h
          · rw [show lo * 32 + (min l.length ((lo + 1) * 32) - lo * 32) = l.length by omega] at hj
            exact hj
          · by_cases h6 : lo = l.length / 32
            · rw [show lo * 32 + (min l.length ((lo + 1) * 32) - lo * 32) = l.length by omega] at hj
              exact hj
            · rw [show lo * 32 + (min l.length ((lo + 1) * 32) - lo * 32) = (lo + 1) * 32 by omega] at hj
              omega
        have h7 := q1 j _ rfl Ha xa ra (by omega) (by omega)
        rw [pos_none hend] at h7
        exact h7
def spOneAt (K : PySem.W.Frag) : Sp := fun vs H Q E => ∃ (r : Addr) (l : List Bool) (n a : Int), vs = [.ref r, .int a] ∧ RowAt K H r l n ∧ (∀ (j : Nat) (m : Int), a = j → ∀ H', Xt (tK K) H H' → RowAt K H' r l m → n ≤ m → m ≤ n + 32 → Q (on (pos true l)[j]?) H') ∧ (a < 0 → E (.ref (He.ga K "BadPlace")) none H)
theorem ok_Row_one_at (T : Tx K mg) : OkN P w K mg base ("Row", some "one_at") 7 ["self", "number"] (spOneAt K) := by
  refine T.F_Row_one_at.ok sc_Row_one_at (fun vs H Q E h => ?_) (fun cdv A outer s H vs Q E hr h => ?_)
  · obtain ⟨r, l, n, a, rfl, _⟩ := h
    rfl
  · obtain ⟨r, l, n, a, rfl, ⟨hl, dx, e⟩, q1, q2⟩ := h
    refine ⟨_, (pss_one (ps_ret (pe_meth (dvs := []) (pv 0) T.k_Row T.M_Row_found_at (ok_Row_found_at T) (hr.mono (by decide)) T.B_Row_found_at .nil psP (pa_cons (pv 1) (pa_cons pe_int pa_nil))))), ?_⟩
    exact ⟨_, rfl, r, dx, _, rfl, e, rfl, _, rfl, r, l, n, a, true, rfl, ⟨hl, dx, e⟩, q1, q2⟩
def spRow (K : PySem.W.Frag) : Sp := fun vs H Q E => ∃ (H0 : Hp) (r dx : Addr) (z : Str), vs = [.ref r, .str z] ∧ Xt (tK K) H0 H ∧ Nw H0 r ∧ H r = some (.ins (He.ga K "Row") dx []) ∧ z.length ≤ 100000 ∧
  (∀ l, z = sb l → l.length ≤ 4096 → ∀ H', Xt (tK K) H0 H' → RowAt K H' r l 0 → Q .non H') ∧ (¬ IsB z → ∀ H', Xt (tK K) H0 H' → E (.ref (He.ga K "BadBits")) none H') ∧ (∀ l, z = sb l → 4096 < l.length → ∀ H', Xt (tK K) H0 H' → E (.ref (He.ga K "TooMany")) none H')
theorem ok_Row_init (T : Tx K mg) : OkN P w K mg base ("Row", some "__init__") 3 ["self", "bits"] (spRow K) := by
  refine T.F_Row_init.ok sc_Row_init (fun vs H Q E h => ?_) (fun cdv A outer s H vs Q E hr h => ?_)
  · obtain ⟨H0, r, dx, z, rfl, _⟩ := h
    rfl
  · obtain ⟨H0, r, dx, z, rfl, x0, nr, e, hz, q1, q2, q3⟩ := h
    refine ⟨_, (pss_cons (ps_expr (pe_callS (ok_need_bits T) (hr.mono (by decide)) (by rfl) T.g_need_bits T.F_need_bits.kp T.B_need_bits psE (pa_cons (pv 1) pa_nil)))
    (pss_cons (ps_if (pt_cmpR op_gt (pe_callB call_len_str (by rfl) T.z_len b_len (pa_cons (pv 1) pa_nil)) (pe_glob (v := .int _) (by rfl) T.c_MOST.choose_spec ⟨_, rfl⟩) (nomark _))
    (pss_one (ps_rz T.x_TooMany rfl (by decide))) pss_nil)
    (pss_cons (ps_fld (pv 0) (pv 1) rfl)
    (pss_cons (ps_fld (pv 0) (pe_callS (ok_needs T) (hr.mono (by decide)) (by rfl) T.g_needs T.F_needs.kp T.B_needs psE (pa_cons (pe_callB call_len_str (by rfl) T.z_len b_len (pa_cons (pv 1) pa_nil)) pa_nil)) rfl)
    (pss_cons (ps_fld (pv 0) (pe_op op_fdivW (pe_callB call_len_str (by rfl) T.z_len b_len (pa_cons (pv 1) pa_nil)) (pe_glob (v := .int _) (by rfl) T.c_BLOCK.choose_spec ⟨_, rfl⟩)) rfl)
    (pss_cons (ps_set (i := 2) sc_Row_init.nd rfl (.inl rfl) (pe_lst pa_nil))
    (pss_cons (ps_set (i := 3) sc_Row_init.nd rfl (.inl rfl) pe_int)
    (pss_cons (ps_for (passes_of rfl) rfl (pi_range1 (by rfl) T.z_range (pa_cons (pe_fldK (K := K) rfl (pv 0) (by rfl)) pa_nil)) (pg_name (i := 4) sc_Row_init.nd rfl (.inl rfl))
    (pss_cons (ps_set (i := 3) sc_Row_init.nd rfl (.inl rfl) (pe_op op_add (pv 3) (pe_m1 F.slot_str_count F.type_str_count mt_count (pe_slice sl_str (pv 1) (po_some (pe_op op_mul (pv 4) (pe_glob (v := .int _) (by rfl) T.c_BLOCK.choose_spec ⟨_, rfl⟩))) (po_some (pe_op op_mul (pe_op op_add (pv 4) pe_int) (pe_glob (v := .int _) (by rfl) T.c_BLOCK.choose_spec ⟨_, rfl⟩)))) pe_str)))
    (pss_one (ps_expr (pe_bmK (K := K) rfl F.plainAttrs_list F.slot_list_append F.type_list_append mt_append (pv 2) (pa_cons (pv 3) pa_nil) (by rfl) (by rfl) (by rfl) (by rfl) (by rfl))))))
    (pss_cons (ps_fld (pv 0) (pe_callS (ok_pack T) (hr.mono (by decide)) (by rfl) T.g_pack T.F_pack.kp T.B_pack psE (pa_cons (pv 2) (pa_cons (pe_fldK (K := K) rfl (pv 0) (by rfl)) pa_nil))) rfl)
    (pss_one (ps_fld (pv 0) pe_int rfl))))))))))), ?_⟩
    refine ⟨_, rfl, z, rfl, hz, fun hb H1 x1 => ?_, fun hb H1 x1 => q2 hb H1 (x0.trans x1.up)⟩
    obtain ⟨l, rfl⟩ := hb
    have hzl : (sb l).length ≤ sizeLine := Nat.le_trans hz (by decide)
    have e1 := x1.same e fun ps z => by cases z
    have x1 := x0.trans x1.up
    refine ⟨_, rfl, _, rfl, hzl, _, _, rfl, rfl, _, rfl, ite2 (fun h0 => ?_) (fun h0 => ?_)⟩
    · have h0 := of_decide_eq_true h0
      rw [sb_len] at h0
      exact q3 l rfl (by omega) H1 x1
    have h0 : l.length ≤ 4096 := by
      simp only [decide_eq_true_eq, sb_len] at h0
      omega
    refine ⟨_, rfl, _, rfl, r, _, dx, _, rfl, e1, T.k_Row, T.n_Row_own, by exact (by decide : 0 < 1000), ?_⟩
    have x2 := x1.put (o := .ins (He.ga K "Row") dx [("own", .str (sb l))]) nr (.ins e1)
    have e2 : (upd H1 r (.ins (He.ga K "Row") dx [("own", .str (sb l))])) r = some (.ins (He.ga K "Row") dx [("own", .str (sb l))]) := upd_same ..
    show tSeq _ _ _ _ (upd H1 r (.ins (He.ga K "Row") dx [("own", .str (sb l))]))
    generalize upd H1 r (.ins (He.ga K "Row") dx [("own", .str (sb l))]) = H2 at x2 e2 ⊢
    refine ⟨_, rfl, _, rfl, hzl, _, rfl, fun _ => ?_, fun h => absurd h (by omega)⟩
    rw [show ((((sb l).length : Nat) : Int)).toNat = l.length by rw [sb_len]; omega]
    refine ⟨_, rfl, r, _, dx, _, rfl, e2, T.k_Row, T.n_Row_wide, by exact (by decide : 1 < 1000), ?_⟩
    have x3 := x2.put (o := .ins (He.ga K "Row") dx [("own", .str (sb l)), ("wide", .int (nd l.length))]) nr (.ins e2)
    have e3 : (upd H2 r (.ins (He.ga K "Row") dx [("own", .str (sb l)), ("wide", .int (nd l.length))])) r = some (.ins (He.ga K "Row") dx [("own", .str (sb l)), ("wide", .int (nd l.length))]) := upd_same ..
    show tSeq _ _ _ _ (upd H2 r (.ins (He.ga K "Row") dx [("own", .str (sb l)), ("wide", .int (nd l.length))]))
    generalize upd H2 r (.ins (He.ga K "Row") dx [("own", .str (sb l)), ("wide", .int (nd l.length))]) = H3 at x3 e3 ⊢
    refine ⟨_, rfl, _, rfl, hzl, _, _, rfl, rfl, wide_div (b := 6) (by decide) (by decide) (by decide) (by decide), _, rfl, r, _, dx, _, rfl, e3, T.k_Row, T.n_Row_whole_blocks, by exact (by decide : 2 < 1000), ?_⟩
    have e32 : (((sb l).length : Nat) : Int) / 32 = ((l.length / 32 : Nat) : Int) := by rw [sb_len]; omega
    let f3 : List (Str × V) := [("own", .str (sb l)), ("wide", .int (nd l.length)), ("whole_blocks", .int ((l.length / 32 : Nat) : Int))]
    have x4 := x3.put (o := .ins (He.ga K "Row") dx f3) nr (.ins e3)
    have e4 : (upd H3 r (.ins (He.ga K "Row") dx f3)) r = some (.ins (He.ga K "Row") dx f3) := upd_same ..
    show tSeq _ _ _ _ (upd H3 r (.ins (He.ga K "Row") dx [("own", .str (sb l)), ("wide", .int (nd l.length)), ("whole_blocks", .int ((((sb l).length : Nat) : Int) / 32))]))
    rw [e32]
    generalize upd H3 r (.ins (He.ga K "Row") dx [("own", .str (sb l)), ("wide", .int (nd l.length)), ("whole_blocks", .int ((l.length / 32 : Nat) : Int))]) = H4 at x4 e4 ⊢
    refine ⟨by decide, fun p np => ?_⟩
    have np0 : Nw H0 p := x4.nw (.of np)
    have hpr : r ≠ p := fun z => by rw [z, np] at e4; cases e4
    have x5 := x4.trans (.new (o := .lst []) np)
    have e5 : (upd H4 p (.lst [])) r = some (.ins (He.ga K "Row") dx f3) := by rw [upd_ne hpr]; exact e4
    have c5 : (upd H4 p (.lst [])) p = some (.lst (((List.range 0).map fun j => ((cn true l ((j + 1) * 32) : Nat) : Int)).map .int)) := upd_same ..
    generalize upd H4 p (.lst []) = H5 at x5 e5 c5 ⊢
    refine ⟨_, rfl, r, _, dx, _, _, rfl, e5, T.k_Row, T.n_Row_whole_blocks, rfl, _, rfl, by omega, by omega, for_it w_range (fun i σ H' => Xt (tK K) H0 H' ∧ H' r = some (.ins (He.ga K "Row") dx f3) ∧ H' p = some (.lst (((List.range i).map fun j => ((cn true l ((j + 1) * 32) : Nat) : Int)).map .int)) ∧ ∃ t, σ = [some (.ref r), some (.str (sb l)), some (.ref p), some (.int (cn true l (i * 32) : Nat)), t]) ⟨x5, e5, c5, none, rfl⟩ (fun _ _ _ _ _ => trivial) ?_ ?_⟩
    · intro i x σ Ha Hb hi hp hy
      obtain ⟨xa, ea, ca, t, rfl⟩ := hp
      obtain ⟨rfl, rfl⟩ := hy
      have hi : i < l.length / 32 := by omega
      have ei : (0 : Int) + (i : Int) = (i : Int) := by omega
      rw [ei]
      have ecut : cutS (sb l) (some ((i : Int) * 32)) (some (((i : Int) + 1) * 32)) = sb ((l.take ((i + 1) * 32)).drop (i * 32)) := by
        rw [show (i : Int) * 32 = ((i * 32 : Nat) : Int) by omega, show ((i : Int) + 1) * 32 = (((i + 1) * 32 : Nat) : Int) by omega, cut_sb]
      have ecnt : cn true ((l.take ((i + 1) * 32)).drop (i * 32)) ((l.take ((i + 1) * 32)).drop (i * 32)).length = cn true l ((i + 1) * 32) - cn true l (i * 32) := by
        have h1 : ((l.take ((i + 1) * 32)).drop (i * 32)).length = 32 := by rw [List.length_drop, List.length_take]; omega
        rw [h1]
        have h2 : cn true l (i * 32 + 32) = cn true l (i * 32) + (fr (fun k => bt true l (i * 32 + k)) 32).length := fr_add ..
        rw [show (i + 1) * 32 = i * 32 + 32 by omega, h2, Nat.add_sub_cancel_left]
        unfold cn
        rw [fr_congr fun k hk => ?_]
        unfold bt
        rw [List.getElem?_drop, List.getElem?_take, if_pos (by omega)]
      refine ⟨_, rfl, _, rfl, _, rfl, _, _, rfl, rfl, .inr ⟨by decide, by decide⟩, _, rfl, _, rfl, _, _, rfl, rfl, _, _, rfl, rfl, .inr ⟨by decide, by decide⟩, _, rfl, sb l, rfl, hzl, ⟨_, rfl⟩, _, _, rfl, rfl, _, _, rfl, rfl, ?_⟩
      show gName 3 (V.int (((cn true l (i * 32) : Nat) : Int) + Txt.count (cutS (sb l) (some ((i : Int) * 32)) (some (((i : Int) + 1) * 32))) "1")) _ _ _
      have hmono : cn true l (i * 32) ≤ cn true l ((i + 1) * 32) := cn_mono (by omega)
      rw [ecut, count_bit, ecnt, show ((cn true l (i * 32) : Nat) : Int) + ((cn true l ((i + 1) * 32) - cn true l (i * 32) : Nat) : Int) = ((cn true l ((i + 1) * 32) : Nat) : Int) by omega]
      refine ⟨_, rfl, .inl ⟨rfl, _, SqL.of ca⟩, _, rfl, p, _, _, rfl, rfl, ca, ?_, xa.mut np0 ca, by rw [upd_ne hpr]; exact ea, ?_, some (.int (i : Nat)), rfl⟩
      · rw [List.length_map, List.length_map, List.length_range]
        exact Nat.lt_of_lt_of_le hi (Nat.le_trans (show l.length / 32 ≤ 128 by omega) (by decide))
      · rw [upd_same, List.range_succ, List.map_append, List.map_append]
        rfl
    · intro σ Ha hp
      obtain ⟨xa, ea, ca, t, rfl⟩ := hp
      have ek : ((((l.length / 32 : Nat) : Int))).toNat = l.length / 32 := by omega
      rw [ek] at ca
      have hbad : ∀ n ∈ ((List.range (l.length / 32)).map fun j => ((cn true l ((j + 1) * 32) : Nat) : Int)), 0 ≤ n ∧ nd n.toNat ≤ nd l.length := fun n hn => by
        obtain ⟨j, hj, rfl⟩ := List.mem_map.mp hn
        have hj := List.mem_range.mp hj
        refine ⟨by omega, (nd_le _ _).mpr ?_⟩
        have h1 : cn true l ((j + 1) * 32) ≤ (j + 1) * 32 := cn_le
        have h2 : l.length < 2 ^ nd l.length := (nd_le _ _).mp (Nat.le_refl _)
        show cn true l ((j + 1) * 32) < _
        omega
      refine ⟨_, rfl, _, rfl, r, _, dx, _, _, rfl, ea, T.k_Row, T.n_Row_wide, rfl, p, _, nd l.length, rfl, SqL.of ca, ?_, Nat.le_trans (nd_len h0) (by decide), fun _ H6 x6 => ?_, fun ⟨n, hn, hb⟩ => ?_⟩
      · rw [List.length_map, List.length_range]
        omega
      · have e6 := x6.same ea fun ps z => by cases z
        have x6 := xa.trans x6.up
        have ect : ((List.range (l.length / 32)).map fun j => ((cn true l ((j + 1) * 32) : Nat) : Int)).map Int.toNat = cts l := by
          rw [List.map_map]
          rfl
        rw [ect]
        refine ⟨_, rfl, r, _, dx, _, rfl, e6, T.k_Row, T.n_Row_counts, by exact (by decide : 3 < 1000), ?_⟩
        have x7 := x6.put (o := .ins (He.ga K "Row") dx (rowF l)) nr (.ins e6)
        have e7 : (upd H6 r (.ins (He.ga K "Row") dx (rowF l))) r = some (.ins (He.ga K "Row") dx (rowF l)) := upd_same ..
        refine ⟨_, rfl, r, _, dx, _, rfl, e7, T.k_Row, T.n_Row_seen, by exact (by decide : 4 < 1000), ?_⟩
        exact q1 l rfl h0 _ (x7.put nr (.ins e7)) ⟨h0, dx, upd_same ..⟩
      · exfalso
        have := hbad n hn
        omega
end
end Tw

set_option maxHeartbeats 4000000
namespace Tw
open PySem PySem.Spec PyProof.Rows L2 LamX
section
variable {P : Program} {w : World} {K : PySem.W.Frag} {mg : Str → Option Value} {base : Heap}
def spLTree (K : PySem.W.Frag) : Sp := fun vs H Q E => ∃ (m : Int) (n : Nat), vs = [.int m, .int n] ∧ 0 ≤ m ∧ 1 ≤ n ∧ n ≤ 100 ∧ ∀ H' v o, Xt (tK K) H H' → ObAt K H' v o → (∃ cs, o = .li cs) → isT o = true → (btT o).length = 2 * n → ht o ≤ n → Q v H'
theorem ok__law_tree (T : Tx K mg) : OkN P w K mg base ("_law_tree", none) 2 ["_law_more", "_law_many"] (spLTree K) := by
  refine T.F__law_tree.ok sc__law_tree (fun vs H Q E h => ?_) (fun cdv A outer s H vs Q E hr h => ?_)
  · obtain ⟨m, n, rfl, _⟩ := h
    rfl
  · obtain ⟨m, n, rfl, hm0, hn1, hn, q⟩ := h
    refine ⟨_, (pss_cons (ps_set (i := 2) sc__law_tree.nd rfl (.inl rfl) (pe_lst (pa_cons (pe_lst pa_nil) pa_nil)))
    (pss_cons (ps_set (i := 3) sc__law_tree.nd rfl (.inl rfl) (pe_lst (pa_cons (pe_ix (ix_listK (K := K) rfl) (pv 2) pe_int (fun _ _ => rfl)) pa_nil)))
    (pss_cons (ps_set (i := 4) sc__law_tree.nd rfl (.inl rfl) (pe_lst pa_nil))
    (pss_cons (ps_for (passes_of rfl) rfl (pi_range1 (by rfl) T.z_range (pa_cons (pe_op op_sub (pv 1) pe_int) pa_nil)) (pg_name (i := 5) sc__law_tree.nd rfl (.inl rfl))
    (pss_cons (ps_set (i := 6) sc__law_tree.nd rfl (.inl rfl) (pe_callS (ok__law_drawn T) (hr.mono (by decide)) (by rfl) T.g__law_drawn T.F__law_drawn.kp T.B__law_drawn psE (pa_cons (pv 0) (pa_cons (pv 5) pa_nil))))
    (pss_cons (ps_set (i := 7) sc__law_tree.nd rfl (.inl rfl) (pe_ix (ix_listK (K := K) rfl) (pe_lst (pa_cons (pe_op op_mod (pv 6) (pe_callB (call_len_seqK (K := K) rfl) (by rfl) T.z_len b_len (pa_cons (pv 3) pa_nil))) (pa_cons (pe_op op_sub (pe_callB (call_len_seqK (K := K) rfl) (by rfl) T.z_len b_len (pa_cons (pv 3) pa_nil)) pe_int) (pa_cons pe_int (pa_cons (pe_callB (call_max2 rfl) (by rfl) T.z_max b_max (pa_cons pe_int (pa_cons (pe_op op_sub (pe_op op_sub (pe_callB (call_len_seqK (K := K) rfl) (by rfl) T.z_len b_len (pa_cons (pv 3) pa_nil)) pe_int) (pe_op op_mod (pv 6) pe_int)) pa_nil))) pa_nil))))) (pe_op op_mod (pv 0) pe_int) (fun _ _ => rfl)))
    (pss_cons (ps_set (i := 8) sc__law_tree.nd rfl (.inl rfl) (pe_lst pa_nil))
    (pss_cons (ps_expr (pe_bmK (K := K) rfl F.plainAttrs_list F.slot_list_insert F.type_list_insert mt_insert (pe_ix (ix_listK (K := K) rfl) (pv 3) (pv 7) (fun _ _ => rfl)) (pa_cons (pe_op op_mod (pe_op op_fdiv (pv 6) pe_int) (pe_op op_add (pe_callB (call_len_seqK (K := K) rfl) (by rfl) T.z_len b_len (pa_cons (pe_ix (ix_listK (K := K) rfl) (pv 3) (pv 7) (fun _ _ => rfl)) pa_nil)) pe_int)) (pa_cons (pv 8) pa_nil)) (by rfl) (by rfl) (by rfl) (by rfl) (by rfl)))
    (pss_one (ps_expr (pe_bmK (K := K) rfl F.plainAttrs_list F.slot_list_append F.type_list_append mt_append (pv 3) (pa_cons (pv 8) pa_nil) (by rfl) (by rfl) (by rfl) (by rfl) (by rfl)))))))))
    (pss_one (ps_ret (pe_ix (ix_listK (K := K) rfl) (pv 2) pe_int (fun _ _ => rfl)))))))), ?_⟩
    refine ⟨by decide, fun r nr => ⟨by exact (by decide : 1 ≤ sizeLine), fun R nR => ?_⟩⟩
    have hrR : r ≠ R := fun z => by rw [← z, upd_same] at nR; cases nR
    have x2 : Xt (tK K) H (upd (upd H r (.lst [])) R (.lst [.ref r])) := (Xt.new nr).trans (.new nR)
    have er : (upd (upd H r (.lst [])) R (.lst [.ref r])) r = some (.lst []) := by rw [upd_ne hrR, upd_same]
    have eR : (upd (upd H r (.lst [])) R (.lst [.ref r])) R = some (.lst [.ref r]) := upd_same ..
    show tSeq _ _ _ _ (upd (upd H r (.lst [])) R (.lst [.ref r]))
    generalize upd (upd H r (.lst [])) R (.lst [.ref r]) = H2 at x2 er eR ⊢
    refine ⟨_, rfl, R, _, 0, .ref r, rfl, rfl, SqL.of eR, atI_nat (j := 0) rfl, by exact (by decide : 1 ≤ sizeLine), fun N nN => ?_⟩
    have hrN : r ≠ N := fun z => by rw [← z, er] at nN; cases nN
    have hRN : R ≠ N := fun z => by rw [← z, eR] at nN; cases nN
    have x3 := x2.trans (.new (o := .lst [.ref r]) nN)
    have er3 : (upd H2 N (.lst [.ref r])) r = some (.lst []) := by rw [upd_ne hrN]; exact er
    have eR3 : (upd H2 N (.lst [.ref r])) R = some (.lst [.ref r]) := by rw [upd_ne hRN]; exact eR
    have eN3 : (upd H2 N (.lst [.ref r])) N = some (.lst ([r].map V.ref)) := upd_same ..
    have wN : Nw H N := x2.nw (.of nN)
    have wr : Nw H r := .of nr
    show tSeq _ _ _ _ (upd H2 N (.lst [.ref r]))
    generalize upd H2 N (.lst [.ref r]) = H3 at x3 er3 eR3 eN3 ⊢
    refine ⟨by decide, fun p4 n4 => ?_⟩
    have x4 := x3.trans (.new (o := .lst []) n4)
    have er4 := (Xt.new (T := tK K) (o := .lst []) n4).lst er3
    have eR4 := (Xt.new (T := tK K) (o := .lst []) n4).lst eR3
    have eN4 := (Xt.new (T := tK K) (o := .lst []) n4).lst eN3
    show tSeq _ _ _ _ (upd H3 p4 (.lst []))
    generalize upd H3 p4 (.lst []) = H4 at x4 er4 eR4 eN4 ⊢
    have ek : ((n : Int) - 1).toNat = n - 1 := by omega
    refine ⟨_, rfl, _, _, rfl, rfl, _, rfl, by omega, by omega, for_it w_range (fun i σ H' => Xt (tK K) H H' ∧ ∃ (t : AT) (ns : List Addr), AtH H' t ∧ t.root = r ∧ (addrs t).Nodup ∧ (∀ a, a ∈ ns ↔ a ∈ addrs t) ∧ ns.length = i + 1 ∧ (addrs t).length = i + 1 ∧ H' N = some (.lst (ns.map V.ref)) ∧ H' R = some (.lst [.ref r]) ∧ R ∉ addrs t ∧ N ∉ addrs t ∧ R ≠ N ∧ (∀ a ∈ addrs t, Nw H a) ∧ ∃ t5 t6 t7 t8, σ = [some (.int m), some (.int n), some (.ref R), some (.ref N), some (.ref p4), t5, t6, t7, t8])
      ⟨x4, .nd r [], [r], ⟨er4, trivial⟩, rfl, (show [r].Nodup by simp), fun a => Iff.rfl, rfl, rfl, eN4, eR4, ?_, ?_, hRN, ?_, _, _, _, _, rfl⟩ (fun _ _ _ _ _ => trivial) ?_ ?_⟩
    · exact fun h => hrR (List.mem_singleton.mp h).symm
    · exact fun h => hrN (List.mem_singleton.mp h).symm
    · intro a ha
      exact List.mem_singleton.mp ha ▸ wr
    · intro i x σ Ha Hb hi hp hy
      obtain ⟨xa, t, ns, ht, hroot, hnd, hmem, hlen, hlen2, eN, eR, hRt, hNt, hNR, hnw, t5, t6, t7, t8, rfl⟩ := hp
      obtain ⟨rfl, rfl⟩ := hy
      have hi : i < n - 1 := by omega
      have ei : (0 : Int) + (i : Int) = (i : Int) := by omega
      rw [ei]
      refine ⟨_, rfl, _, rfl, _, _, rfl, by omega, by omega, ?_⟩
      have hd0 := (dr_rng m (i : Int)).1
      generalize dr m (i : Int) = d at hd0 ⊢
      obtain ⟨d, rfl⟩ : ∃ k : Nat, d = k := ⟨d.toNat, by omega⟩
      have hm4 : m % 4 = 0 ∨ m % 4 = 1 ∨ m % 4 = 2 ∨ m % 4 = 3 := by omega
      have lN : ((ns.map V.ref).length : Int) = (i : Int) + 1 := by rw [List.length_map, hlen]; rfl
      have sN : SqL K Hb N (ns.map V.ref) := SqL.of eN
      refine ⟨_, rfl, _, rfl, _, _, rfl, .inl sN, _, _, rfl, rfl, (show (0 : Int) < ((ns.map V.ref).length : Int) by omega), _, rfl, _, _, rfl, .inl sN, _, _, rfl, rfl, _, rfl, _, _, rfl, .inl sN, _, _, rfl, rfl, _, rfl, _, _, rfl, rfl, (show (0 : Int) < 3 by decide), _, _, rfl, rfl, _, _, rfl, by exact (by decide : 4 ≤ sizeLine), fun p5 n5 => ?_⟩
      obtain ⟨k, hk, ek⟩ : ∃ k : Nat, k < i + 1 ∧ atI [V.int ((d : Int) % ((ns.map V.ref).length : Int)), V.int (((ns.map V.ref).length : Int) - 1), V.int 0, V.int (if ((ns.map V.ref).length : Int) - 1 - (d : Int) % 3 > 0 then ((ns.map V.ref).length : Int) - 1 - (d : Int) % 3 else 0)] (m % 4) = some (.int (k : Int)) := by
        rw [lN]
        rcases hm4 with h | h | h | h
        · refine ⟨d % (i + 1), Nat.mod_lt _ (by omega), ?_⟩
          rw [h]
          exact atI_nat (j := 0) (congrArg (fun z => some (V.int z)) (Int.natCast_emod _ _).symm)
        · refine ⟨i, by omega, ?_⟩
          rw [h]
          exact atI_nat (j := 1) (congrArg (fun z => some (V.int z)) (by omega))
        · refine ⟨0, by omega, ?_⟩
          rw [h]
          exact atI_nat (j := 2) rfl
        · refine ⟨i - d % 3, by omega, ?_⟩
          rw [h]
          refine atI_nat (j := 3) (congrArg (fun z => some (V.int z)) ?_)
          split <;> omega
      refine ⟨_, rfl, _, _, rfl, rfl, (show (0 : Int) < 4 by decide), p5, _, _, .int (k : Int), rfl, rfl, SqL.of (upd_same ..), ek, ?_⟩
      have x5 : Xt (tK K) Hb (upd Hb p5 (.lst [V.int ((d : Int) % ((ns.map V.ref).length : Int)), V.int (((ns.map V.ref).length : Int) - 1), V.int 0, V.int (if ((ns.map V.ref).length : Int) - 1 - (d : Int) % 3 > 0 then ((ns.map V.ref).length : Int) - 1 - (d : Int) % 3 else 0)])) := .new n5
      show tSeq _ _ _ _ (upd Hb p5 (.lst [V.int ((d : Int) % ((ns.map V.ref).length : Int)), V.int (((ns.map V.ref).length : Int) - 1), V.int 0, V.int (if ((ns.map V.ref).length : Int) - 1 - (d : Int) % 3 > 0 then ((ns.map V.ref).length : Int) - 1 - (d : Int) % 3 else 0)]))
      generalize upd Hb p5 _ = H5 at x5 ⊢
      refine ⟨by decide, fun f nf => ?_⟩
      have x8 := x5.trans (.new (o := .lst []) nf)
      have hf8 : (upd H5 f (.lst [])) f = some (.lst []) := upd_same ..
      have nwf : Nw H f := (xa.trans x5).nw (.of nf)
      have hfa : ∀ a ∈ addrs t, a ≠ f := fun a ha z => by
        obtain ⟨xs, h1, _⟩ := at_of_mem t ht ha
        rw [z] at h1
        rw [x5.lst h1] at nf
        cases nf
      have hfN : N ≠ f := fun z => by rw [← z, x5.lst eN] at nf; cases nf
      have hfR : R ≠ f := fun z => by rw [← z, x5.lst eR] at nf; cases nf
      show tSeq _ _ _ _ (upd H5 f (.lst []))
      generalize upd H5 f (.lst []) = H8 at x8 hf8 ⊢
      have eN8 := x8.lst eN
      have eR8 := x8.lst eR
      have ht8 := Xg.att x8 t ht
      obtain ⟨b, hb⟩ : ∃ b, ns[k]? = some b := ⟨ns[k], List.getElem?_eq_getElem (by omega)⟩
      have hbm : b ∈ addrs t := (hmem b).mp (List.mem_of_getElem? hb)
      obtain ⟨xs, eb8, lb⟩ := at_of_mem t ht8 hbm
      have hbk : (ns.map V.ref)[k]? = some (.ref b) := by rw [List.getElem?_map, hb]; rfl
      have h63 : ((d : Int) / 64 % ((xs.length : Int) + 1)) < 2 ^ 63 := by
        have := Int.emod_lt_of_pos ((d : Int) / 64) (show (0 : Int) < (xs.length : Int) + 1 by omega)
        omega
      refine ⟨_, rfl, _, rfl, N, _, (k : Int), .ref b, rfl, rfl, SqL.of eN8, atI_nat hbk, .inl ⟨rfl, _, SqL.of eb8⟩, _, rfl, _, _, rfl, rfl, ⟨by decide, by decide⟩, _, rfl, _, rfl, N, _, (k : Int), .ref b, rfl, rfl, SqL.of eN8, atI_nat hbk, _, _, rfl, .inl (SqL.of eb8), _, _, rfl, rfl, _, _, rfl, rfl, (show (0 : Int) < (xs.length : Int) + 1 by omega), _, rfl, b, xs, _, _, rfl, rfl, eb8, Nat.lt_of_le_of_lt (show xs.length ≤ 100 by omega) (by decide), Int.emod_nonneg _ (by omega), h63, ?_⟩
      generalize ((d : Int) / 64 % ((xs.length : Int) + 1)).toNat = j
      have hbR : R ≠ b := fun z => hRt (z ▸ hbm)
      have hbN : N ≠ b := fun z => hNt (z ▸ hbm)
      have xb := (xa.trans x8).mut (xs := xs.take j ++ [V.ref f] ++ xs.drop j) (hnw b hbm) eb8
      have eb9 : (upd H8 b (.lst (xs.take j ++ [V.ref f] ++ xs.drop j))) b = some (.lst (xs.take j ++ [V.ref f] ++ xs.drop j)) := upd_same ..
      have ht9 : AtH (upd H8 b (.lst (xs.take j ++ [V.ref f] ++ xs.drop j))) (ins b j f t) := ins_at xs eb8 eb9 (by rw [upd_ne (Ne.symm (hfa b hbm))]; exact hf8) t ht8 hnd (fun a ha _ => upd_ne ha) hbm
      have eN9 : (upd H8 b (.lst (xs.take j ++ [V.ref f] ++ xs.drop j))) N = some (.lst (ns.map V.ref)) := by rw [upd_ne hbN]; exact eN8
      have eR9 : (upd H8 b (.lst (xs.take j ++ [V.ref f] ++ xs.drop j))) R = some (.lst [.ref r]) := by rw [upd_ne hbR]; exact eR8
      show Ends.nx _ _ (upd H8 b (.lst (xs.take j ++ [V.ref f] ++ xs.drop j)))
      generalize upd H8 b (.lst (xs.take j ++ [V.ref f] ++ xs.drop j)) = H9 at xb ht9 eN9 eR9 ⊢
      have hperm := ins_perm (i := j) (f := f) t hnd hbm
      have hmem9 : ∀ a, a ∈ addrs (ins b j f t) ↔ a = f ∨ a ∈ addrs t := fun a => by rw [hperm.mem_iff, List.mem_cons]
      have hN9 : N ∉ addrs (ins b j f t) := fun h => ((hmem9 N).mp h).elim hfN hNt
      have hR9 : R ∉ addrs (ins b j f t) := fun h => ((hmem9 R).mp h).elim hfR hRt
      refine ⟨_, rfl, .inl ⟨rfl, _, SqL.of eN9⟩, _, rfl, N, _, _, rfl, rfl, eN9, by rw [List.length_map]; exact Nat.lt_of_le_of_lt (show ns.length ≤ 100 by omega) (by decide), xb.mut wN eN9, ins b j f t, ns ++ [f], AtH.frame _ ht9 (fun a ha => upd_ne fun z => hN9 (z ▸ ha)), by rw [ins_root]; exact hroot, ?_, fun a => ?_, by rw [List.length_append, hlen]; rfl, by rw [hperm.length_eq, List.length_cons, hlen2], by rw [upd_same, List.map_append]; rfl, by rw [upd_ne hNR]; exact eR9, hR9, hN9, hNR, fun a ha => ?_, _, _, _, _, rfl⟩
      · rw [hperm.nodup_iff, List.nodup_cons]
        exact ⟨fun h => hfa f h rfl, hnd⟩
      · rw [hmem9, List.mem_append, List.mem_singleton, hmem a]
        exact Or.comm
      · rcases (hmem9 a).mp ha with rfl | ha
        · exact nwf
        · exact hnw a ha
    · intro σ Ha hp
      obtain ⟨xa, t, ns, ht, hroot, hnd, hmem, hlen, hlen2, eN, eR, hRt, hNt, hNR, hnw, t5, t6, t7, t8, rfl⟩ := hp
      obtain ⟨g1, g2, g3⟩ := isT_toOb t
      have ho := AtH.ob (K := K) t ht
      rw [hroot] at ho
      refine ⟨_, rfl, R, _, 0, .ref r, rfl, rfl, SqL.of eR, atI_nat (j := 0) rfl, q Ha _ _ xa ho ?_ g1 ?_ ?_⟩
      · cases t with
        | nd a cs => exact ⟨_, rfl⟩
      · rw [g2]
        omega
      · omega
end
end Tw

set_option maxHeartbeats 4000000
namespace Tw
open PySem PySem.Spec PyProof.Rows L2 LamX
section
variable {P : Program} {w : World} {K : PySem.W.Frag} {mg : Str → Option Value} {base : Heap}
/-! ### a wood -/
def woodF (r : Addr) (l : List Bool) : List (Str × V) := [("row", .ref r), ("wide", .int (nd l.length)), ("lows", .str (sb (pk (lws l) (nd l.length))))]
def WoodAt (K : PySem.W.Frag) (H : Hp) (u : Addr) (l : List Bool) : Prop := okT l ∧ l.length ≤ 2000 ∧ ∃ (r dx : Addr) (n : Int), H u = some (.ins (He.ga K "Wood") dx (woodF r l)) ∧ RowAt K H r l n
theorem noSeen {r : Addr} {l : List Bool} : ∀ fs' n, woodF r l ≠ fs' ++ sn n := fun fs' n h => by
  have h2 := congrArg List.getLast? h
  unfold sn at h2
  rw [List.getLast?_concat] at h2
  have h3 : (some (("lows" : Str), V.str (sb (pk (lws l) (nd l.length)))) : Option (Str × V)) = some (("seen" : Str), V.int n) := h2
  injection h3 with h3
  have h4 := congrArg Prod.snd h3
  cases h4
theorem WoodAt.xt {H H' : Hp} {u : Addr} {l : List Bool} {T : List (Addr × Str)} (h : WoodAt K H u l) (x : Xt T H H') : WoodAt K H' u l := by
  obtain ⟨W, hl, r, dx, n, ew, er⟩ := h
  obtain ⟨n', er'⟩ := er.xt x
  exact ⟨W, hl, r, dx, n', x.ins ew noSeen, er'⟩
/-- a deed with a node: what it tells, by the bits and the node -/
def spNode (K : PySem.W.Frag) (f : List Bool → Nat → V) : Sp := fun vs H Q E => ∃ (u : Addr) (l : List Bool) (p : Int), vs = [.ref u, .int p] ∧ WoodAt K H u l ∧ (∀ j : Nat, p = j → l[j]? = some true → ∀ H', Xt (tK K) H H' → Q (f l j) H') ∧
  ((∀ j : Nat, p = j → ¬ l[j]? = some true) → ∀ H', Xt (tK K) H H' → E (.ref (He.ga K "BadPlace")) none H')
theorem node_len {f : List Bool → Nat → V} {vs : List V} {H : Hp} {Q : VK} {E : XK} (h : spNode K f vs H Q E) : vs.length = 2 := by
  obtain ⟨u, l, p, rfl, _⟩ := h
  rfl
theorem wood_sz {l : List Bool} (h : l.length ≤ 2000) : (sb l).length ≤ sizeLine := by rw [sb_len]; exact Nat.le_trans h (by decide)
theorem ok_Wood_need (T : Tx K mg) : OkN P w K mg base ("Wood", some "need") 1 ["self", "good"] (spNeed K) := by
  refine T.F_Wood_need.ok sc_Wood_need (fun vs H Q E h => ?_) (fun cdv A outer s H vs Q E hr h => ?_)
  · obtain ⟨r, b, rfl, _⟩ := h
    rfl
  · obtain ⟨r, b, rfl, q1, q2⟩ := h
    refine ⟨_, (pss_one (ps_if (pt_not (pt_val (pv 1)))
    (pss_one (ps_rz T.x_BadPlace rfl (by decide))) pss_nil)), ?_⟩
    cases b with
    | true => exact ⟨_, rfl, true, rfl, iteF (q1 rfl)⟩
    | false => exact ⟨_, rfl, false, rfl, iteT (q2 rfl)⟩
def spWSize (K : PySem.W.Frag) : Sp := fun vs H Q E => ∃ (u : Addr) (l : List Bool), vs = [.ref u] ∧ WoodAt K H u l ∧ Q (.int (l.length / 2 : Nat)) H
theorem ok_Wood_size (T : Tx K mg) : OkN P w K mg base ("Wood", some "size") 2 ["self"] (spWSize K) := by
  refine T.F_Wood_size.ok sc_Wood_size (fun vs H Q E h => ?_) (fun cdv A outer s H vs Q E hr h => ?_)
  · obtain ⟨u, l, rfl, _⟩ := h
    rfl
  · obtain ⟨u, l, rfl, ⟨W, hl, r, dx, n, ew, er⟩, q⟩ := h
    refine ⟨_, (pss_one (ps_ret (pe_op op_fdiv (pe_meth0 (dvs := []) (pe_fldK (K := K) rfl (pv 0) (by rfl)) T.k_Row T.M_Row_size (ok_Row_size T) (hr.mono (by decide)) T.B_Row_size .nil psP) pe_int))), ?_⟩
    exact ⟨_, rfl, u, _, dx, _, _, rfl, ew, T.k_Wood, T.n_Wood_row, rfl, r, _, _, rfl, er.2.choose_spec, rfl, r, l, n, rfl, er, _, _, rfl, rfl, ⟨by decide, by decide⟩, q⟩
theorem ok_Wood_need_node (T : Tx K mg) : OkN P w K mg base ("Wood", some "need_node") 3 ["self", "node"] (spNode K fun _ _ => .non) := by
  refine T.F_Wood_need_node.ok sc_Wood_need_node (fun vs H Q E h => node_len h) (fun cdv A outer s H vs Q E hr h => ?_)
  obtain ⟨u, l, p, rfl, ⟨W, hl, r, dx, n, ew, er⟩, q1, q2⟩ := h
  refine ⟨_, (pss_one (ps_expr (pe_meth (dvs := []) (pv 0) T.k_Wood T.M_Wood_need (ok_Wood_need T) (hr.mono (by decide)) T.B_Wood_need .nil psP (pa_cons (pe_and (pe_chain op_le op_lt pe_int (pv 1) (pe_meth0 (dvs := []) (pe_fldK (K := K) rfl (pv 0) (by rfl)) T.k_Row T.M_Row_size (ok_Row_size T) (hr.mono (by decide)) T.B_Row_size .nil psP)) (pe_one (pe_cmpR op_eq (pe_meth (dvs := []) (pe_fldK (K := K) rfl (pv 0) (by rfl)) T.k_Row T.M_Row_bit (ok_Row_bit T) (hr.mono (by decide)) T.B_Row_bit .nil psP (pa_cons (pv 1) pa_nil)) pe_int (nomark _)))) pa_nil)))), ?_⟩
  have fin : ∀ (b : Bool) H', Xt (tK K) H H' → (b = true → ∃ j : Nat, p = j ∧ l[j]? = some true) → (b = false → ∀ j : Nat, p = j → ¬ l[j]? = some true) → spNeed K [.ref u, .bl b] H' (fun _ H2 => Q .non H2) E := fun b H' x h1 h2 => ⟨u, b, rfl, fun hb => by
    obtain ⟨j, h3, h4⟩ := h1 hb
    exact q1 j h3 h4 H' x, fun hb => q2 (h2 hb) H' x⟩
  refine ⟨_, rfl, u, _, _, rfl, ew, rfl, _, rfl, _, _, rfl, rfl, _, rfl, ite2 (fun h0 => ?_) (fun h0 => ?_)⟩
  · have h0 := of_decide_eq_true h0
    refine ⟨_, rfl, u, _, dx, _, _, rfl, ew, T.k_Wood, T.n_Wood_row, rfl, r, _, _, rfl, er.2.choose_spec, rfl, r, l, n, rfl, er, _, _, rfl, rfl, _, rfl, ite2 (fun h1 => ?_) (fun h1 => ?_)⟩
    · have h1 := of_decide_eq_true h1
      obtain ⟨j, rfl⟩ : ∃ j : Nat, p = j := ⟨p.toNat, by omega⟩
      have hj : l[j]? = some l[j] := List.getElem?_eq_getElem (by omega)
      refine ⟨_, rfl, u, _, dx, _, _, rfl, ew, T.k_Wood, T.n_Wood_row, rfl, r, _, _, rfl, er.2.choose_spec, rfl, _, rfl, r, l, n, _, rfl, er, fun j' b ej hb H1 x1 r1 => ⟨rfl, ?_⟩, fun h => absurd h (by omega)⟩
      obtain rfl : j = j' := by omega
      refine fin _ H1 x1 (fun hb2 => ⟨j, rfl, ?_⟩) (fun hb2 j2 ej2 h2 => ?_)
      · have := V.int.inj (of_decide_eq_true hb2)
        cases b
        · cases this
        · exact hb
      · obtain rfl : j = j2 := by omega
        rw [hb] at h2
        cases h2
        exact absurd hb2 (by decide)
    · refine fin _ H .refl (fun z => by cases z) fun _ j ej h2 => ?_
      have := len_of h2
      simp only [decide_eq_true_eq] at h1
      omega
  · refine ⟨_, rfl, iteF (fin _ H .refl (fun z => by cases z) fun _ j ej h2 => ?_)⟩
    simp only [decide_eq_true_eq] at h0
    omega
def spDeep (K : PySem.W.Frag) : Sp := fun vs H Q E => ∃ (u : Addr) (l : List Bool) (j : Nat), vs = [.ref u, .int j] ∧ WoodAt K H u l ∧ j ≤ l.length ∧ ∀ H', Xt (tK K) H H' → Q (.int (dq l j)) H'
theorem ok_Wood_deep (T : Tx K mg) : OkN P w K mg base ("Wood", some "deep") 6 ["self", "place"] (spDeep K) := by
  refine T.F_Wood_deep.ok sc_Wood_deep (fun vs H Q E h => ?_) (fun cdv A outer s H vs Q E hr h => ?_)
  · obtain ⟨u, l, j, rfl, _⟩ := h
    rfl
  · obtain ⟨u, l, j, rfl, ⟨W, hl, r, dx, n, ew, er⟩, hj, q⟩ := h
    refine ⟨_, (pss_one (ps_ret (pe_op op_sub (pe_op op_mul pe_int (pe_meth (dvs := []) (pe_fldK (K := K) rfl (pv 0) (by rfl)) T.k_Row T.M_Row_ones (ok_Row_ones T) (hr.mono (by decide)) T.B_Row_ones .nil psP (pa_cons (pv 1) pa_nil))) (pv 1)))), ?_⟩
    refine ⟨_, rfl, u, _, dx, _, _, rfl, ew, T.k_Wood, T.n_Wood_row, rfl, r, _, _, rfl, er.2.choose_spec, rfl, _, rfl, r, l, n, _, rfl, er, fun j' ej hj' H1 x1 r1 => ?_, fun h => absurd h (by omega)⟩
    obtain rfl : j = j' := by omega
    refine ⟨_, _, rfl, rfl, .inl ⟨by decide, by decide⟩, _, rfl, _, _, rfl, rfl, ?_⟩
    have := q H1 x1
    rw [dq_cn hj] at this
    exact this
def lowV (l : List Bool) (b : Nat) : V := if b < l.length / 32 then .int (lw l b) else .non
def spLow (K : PySem.W.Frag) : Sp := fun vs H Q E => ∃ (u : Addr) (l : List Bool) (b : Nat), vs = [.ref u, .int b] ∧ WoodAt K H u l ∧ ∀ H', Xt (tK K) H H' → Q (lowV l b) H'
theorem ok_Wood_low (T : Tx K mg) : OkN P w K mg base ("Wood", some "low") 4 ["self", "block"] (spLow K) := by
  refine T.F_Wood_low.ok sc_Wood_low (fun vs H Q E h => ?_) (fun cdv A outer s H vs Q E hr h => ?_)
  · obtain ⟨u, l, b, rfl, _⟩ := h
    rfl
  · obtain ⟨u, l, b, rfl, ⟨W, hl, r, dx, n, ew, er⟩, q⟩ := h
    refine ⟨_, (pss_cons (ps_if (pt_cmpR op_gt (pe_op op_mul (pe_op op_add (pv 1) pe_int) (pe_fldK (K := K) rfl (pv 0) (by rfl))) (pe_callB call_len_str (by rfl) T.z_len b_len (pa_cons (pe_fldK (K := K) rfl (pv 0) (by rfl)) pa_nil)) (nomark _))
    (pss_one (ps_ret pe_non)) pss_nil)
    (pss_one (ps_ret (pe_callS (ok_number_at T) (hr.mono (by decide)) (by rfl) T.g_number_at T.F_number_at.kp T.B_number_at psE (pa_cons (pe_fldK (K := K) rfl (pv 0) (by rfl)) (pa_cons (pe_fldK (K := K) rfl (pv 0) (by rfl)) (pa_cons (pv 1) pa_nil))))))), ?_⟩
    have hw : nd l.length ≤ 13 := (nd_le _ _).mpr (by omega)
    have hw0 : 0 < nd l.length := nd_lo2 (by have := W.pos; omega)
    have hlen : (sb (pk (lws l) (nd l.length))).length = l.length / 32 * nd l.length := by rw [sb_len, pk_len, lws_len]
    have hsz : l.length / 32 * nd l.length ≤ 100000 := Nat.le_trans (Nat.mul_le_mul (show l.length / 32 ≤ 128 by omega) hw) (by decide)
    have ecast : ((b : Int) + 1) * ((nd l.length : Nat) : Int) = (((b + 1) * nd l.length : Nat) : Int) := by rw [Int.natCast_mul]; rfl
    refine ⟨_, rfl, _, _, rfl, rfl, _, rfl, u, _, dx, _, _, rfl, ew, T.k_Wood, T.n_Wood_wide, rfl, _, _, rfl, rfl, .inr ⟨by omega, by omega⟩, _, rfl, u, _, dx, _, _, rfl, ew, T.k_Wood, T.n_Wood_lows, rfl, _, rfl, by rw [hlen]; exact Nat.le_trans hsz (by decide), _, _, rfl, rfl, _, rfl, ite2 (fun h0 => ?_) (fun h0 => ?_)⟩
    · have h0 := of_decide_eq_true h0
      rw [ecast, hlen] at h0
      have hb : ¬ b < l.length / 32 := fun z => by
        have := Nat.mul_le_mul_right (nd l.length) z
        have h1 : (b + 1) * nd l.length ≤ l.length / 32 * nd l.length := this
        omega
      have := q H .refl
      unfold lowV at this
      rw [if_neg hb] at this
      exact this
    · simp only [decide_eq_true_eq] at h0
      rw [ecast, hlen] at h0
      have hb : b < l.length / 32 := by
        rcases Nat.lt_or_ge b (l.length / 32) with h | h
        · exact h
        · have h1 : (l.length / 32 + 1) * nd l.length ≤ (b + 1) * nd l.length := Nat.mul_le_mul_right _ (by omega)
          rw [Nat.succ_mul] at h1
          omega
      have hle : (b + 1) * nd l.length ≤ l.length / 32 * nd l.length := Nat.mul_le_mul_right _ hb
      have hpos : 0 < l.length / 32 * nd l.length := Nat.mul_pos (by omega) hw0
      refine ⟨_, rfl, u, _, dx, _, _, rfl, ew, T.k_Wood, T.n_Wood_lows, rfl, _, rfl, u, _, dx, _, _, rfl, ew, T.k_Wood, T.n_Wood_wide, rfl, _, rfl, _, nd l.length, (b : Int), rfl, by rw [hlen]; exact hsz, by omega, fun l' j e1 g ej hj2 hne H' x' => ?_, fun g => absurd (good_pk _ _) g, fun _ hbad => ?_⟩
      · have e1 := sb_inj e1
        subst e1
        obtain rfl : b = j := by omega
        rw [part_pk _ _ _ _ (lws_get hb), bn_vb_lt ((nd_le _ _).mp (lw_nd W hb))]
        have := q H' x'.up
        unfold lowV at this
        rw [if_pos hb] at this
        exact this
      · exfalso
        rw [hlen, ecast] at hbad
        omega
def spDown (K : PySem.W.Frag) : Sp := fun vs H Q E => ∃ (u : Addr) (l : List Bool) (j : Nat) (d : Int), vs = [.ref u, .int j, .int d] ∧ WoodAt K H u l ∧ j ≤ l.length ∧ ∀ H', Xt (tK K) H H' → Q (on (fd l j d)) H'
theorem ok_Wood_first_down (T : Tx K mg) : OkN P w K mg base ("Wood", some "first_down") 7 ["self", "place", "deep"] (spDown K) := by
  refine T.F_Wood_first_down.ok sc_Wood_first_down (fun vs H Q E h => ?_) (fun cdv A outer s H vs Q E hr h => ?_)
  · obtain ⟨u, l, j, d, rfl, _⟩ := h
    rfl
  · obtain ⟨u, l, j, d, rfl, hw, hj, q⟩ := h
    have hw0 := hw
    obtain ⟨W, hl, r, dx, n, ew, er⟩ := hw
    refine ⟨_, (pss_cons (ps_set (i := 3) sc_Wood_first_down.nd rfl (.inl rfl) (pe_meth (dvs := []) (pv 0) T.k_Wood T.M_Wood_deep (ok_Wood_deep T) (hr.mono (by decide)) T.B_Wood_deep .nil psP (pa_cons (pv 1) pa_nil)))
    (pss_cons (ps_while (passes_of rfl) (pt_cmpR op_lt (pv 1) (pe_meth0 (dvs := []) (pe_fldK (K := K) rfl (pv 0) (by rfl)) T.k_Row T.M_Row_size (ok_Row_size T) (hr.mono (by decide)) T.B_Row_size .nil psP) (nomark _))
    (pss_cons (ps_set (i := 4) sc_Wood_first_down.nd rfl (.inl rfl) (pe_meth (dvs := []) (pv 0) T.k_Wood T.M_Wood_low (ok_Wood_low T) (hr.mono (by decide)) T.B_Wood_low .nil psP (pa_cons (pe_op op_fdivW (pv 1) (pe_glob (v := .int _) (by rfl) T.c_BLOCK.choose_spec ⟨_, rfl⟩)) pa_nil)))
    (pss_one (ps_if (PW.pt (pw_and (pt_cmpR op_eq (pe_op op_mod (pv 1) (pe_glob (v := .int _) (by rfl) T.c_BLOCK.choose_spec ⟨_, rfl⟩)) pe_int (nomark _)) (pw_and (pt_cmpR op_notN (pv 4) pe_non (nomark _)) (pw_and1 (pt_cmpR op_gt (pv 4) (pv 2) (nomark _))))))
    (pss_cons (ps_set (i := 1) sc_Wood_first_down.nd rfl (.inl rfl) (pe_op op_add (pv 1) (pe_glob (v := .int _) (by rfl) T.c_BLOCK.choose_spec ⟨_, rfl⟩)))
    (pss_one (ps_set (i := 3) sc_Wood_first_down.nd rfl (.inl rfl) (pe_meth (dvs := []) (pv 0) T.k_Wood T.M_Wood_deep (ok_Wood_deep T) (hr.mono (by decide)) T.B_Wood_deep .nil psP (pa_cons (pv 1) pa_nil))))) (pss_cons (ps_set (i := 3) sc_Wood_first_down.nd rfl (.inl rfl) (pe_op op_sub (pe_op op_add (pv 3) (pe_op op_mul pe_int (pe_meth (dvs := []) (pe_fldK (K := K) rfl (pv 0) (by rfl)) T.k_Row T.M_Row_bit (ok_Row_bit T) (hr.mono (by decide)) T.B_Row_bit .nil psP (pa_cons (pv 1) pa_nil)))) pe_int))
    (pss_cons (ps_if (pt_cmpR op_eq (pv 3) (pv 2) (nomark _))
    (pss_one (ps_ret (pv 1))) pss_nil)
    (pss_one (ps_set (i := 1) sc_Wood_first_down.nd rfl (.inl rfl) (pe_op op_add (pv 1) pe_int)))))))))
    (pss_one (ps_ret pe_non)))), ?_⟩
    refine ⟨_, rfl, u, _, _, rfl, ew, rfl, _, rfl, u, l, j, rfl, hw0, hj, fun H1 x1 => ?_⟩
    refine ⟨fun k σ H' => ∃ (i : Nat) (t : Option V), i + k = l.length ∧ j ≤ i ∧ Xt (tK K) H H' ∧ (∀ c, j ≤ c → c < i → dq l (c + 1) ≠ d) ∧ σ = [some (.ref u), some (.int i), some (.int d), some (.int (dq l i)), t], ⟨l.length - j, j, none, by omega, Nat.le_refl _, x1, fun c h1 h2 => by omega, rfl⟩, fun k σ H' hW => ?_⟩
    obtain ⟨i, t, hk, hji, x2, hno, rfl⟩ := hW
    have hw2 := hw0.xt x2
    obtain ⟨_, _, r, dx, n, ew, er⟩ := hw2
    refine ⟨_, rfl, _, rfl, u, _, dx, _, _, rfl, ew, T.k_Wood, T.n_Wood_row, rfl, r, _, _, rfl, er.2.choose_spec, rfl, r, l, n, rfl, er, _, _, rfl, rfl, _, rfl, ite2 (fun h0 => ?_) (fun h0 => ?_)⟩
    rotate_left
    · simp only [decide_eq_true_eq] at h0
      have := q H' x2
      rw [fd_none fun c h1 h2 => hno c h1 (by omega)] at this
      exact this
    have h0 := of_decide_eq_true h0
    have hi : i < l.length := by omega
    refine ⟨fun σ' H'' => ∃ m', m' < k ∧ ∃ (i : Nat) (t : Option V), i + m' = l.length ∧ j ≤ i ∧ Xt (tK K) H H'' ∧ (∀ c, j ≤ c → c < i → dq l (c + 1) ≠ d) ∧ σ' = [some (.ref u), some (.int i), some (.int d), some (.int (dq l i)), t], fun _ _ h => h, ?_⟩
    have e32 : ((i : Int) / 32) = ((i / 32 : Nat) : Int) := by omega
    refine ⟨_, rfl, u, _, _, rfl, ew, rfl, _, rfl, _, _, rfl, rfl, wide_div (b := 6) (by decide) (by decide) (by decide) (by decide), u, l, i / 32, ?_, hw0.xt x2, fun H3 x3 => ?_⟩
    · show [V.ref u, V.int ((i : Int) / 32)] = _
      rw [e32]
    have hw3 := (hw0.xt x2).xt x3
    have x3 := x2.trans x3
    have hw3' := hw3
    obtain ⟨_, _, r, dx, n, ew, er⟩ := hw3
    generalize hlv : lowV l (i / 32) = lv
    apply via (P := fun H' => Xt (tK K) H3 H')
    · intro rest
      refine ⟨_, rfl, _, _, rfl, rfl, (show (0 : Int) < 32 by decide), rfl, _, rfl, ite2 (fun h1 => ?_) (fun _ => iteF (rest _ .refl))⟩
      have h1 : (i : Int) % 32 = 0 := V.int.inj (of_decide_eq_true h1)
      by_cases hb : i / 32 < l.length / 32
      · obtain rfl : V.int (lw l (i / 32)) = lv := by rw [← hlv]; exact (if_pos hb).symm
        refine ⟨_, rfl, rfl, _, rfl, iteT ⟨_, rfl, _, rfl, _, _, rfl, rfl, _, rfl, ite2 (fun h2 => ?_) (fun _ => rest _ .refl)⟩⟩
        have h2 := of_decide_eq_true h2
        refine ⟨_, rfl, _, _, rfl, rfl, _, rfl, u, _, _, rfl, ew, rfl, _, rfl, u, l, i + 32, rfl, hw3', by omega, fun H4 x4 => ⟨k - 32, by omega, i + 32, _, by omega, by omega, x3.trans x4, fun c h3 h4 => ?_, rfl⟩⟩
        rcases Nat.lt_or_ge c i with h5 | h5
        · exact hno c h3 h5
        · have h6 := (lw_le W hb).2 (c - i) (by omega)
          rw [show i / 32 * 32 + (c - i) + 1 = c + 1 by omega] at h6
          omega
      · obtain rfl : V.non = lv := by rw [← hlv]; exact (if_neg hb).symm
        exact ⟨_, rfl, rfl, _, rfl, iteF (iteF (rest _ .refl))⟩
    intro H4 x4
    have hw4 := hw3'.xt x4
    have x4 := x3.trans x4
    obtain ⟨_, _, r, dx, n, ew, er⟩ := hw4
    have hbi : l[i]? = some l[i] := List.getElem?_eq_getElem hi
    refine ⟨_, rfl, _, rfl, u, _, dx, _, _, rfl, ew, T.k_Wood, T.n_Wood_row, rfl, r, _, _, rfl, er.2.choose_spec, rfl, _, rfl, r, l, n, _, rfl, er, fun i' b ei hb H5 x5 r5 => ?_, fun h => absurd h (by omega)⟩
    obtain rfl : i = i' := by omega
    have x5 := x4.trans x5
    refine ⟨_, _, rfl, rfl, .inl ⟨by decide, by decide⟩, _, _, rfl, rfl, _, _, rfl, rfl, ?_⟩
    show gName 3 (V.int (dq l i + 2 * (b.toNat : Int) - 1)) _ _ _
    rw [← dq_succ hb]
    refine ⟨_, rfl, _, rfl, rfl, _, rfl, ite2 (fun h2 => ?_) (fun h2 => ?_)⟩
    · have h2 := V.int.inj (of_decide_eq_true h2)
      have := q H5 x5
      rw [fd_some hji hi h2 hno] at this
      exact ⟨_, rfl, this⟩
    · have h2 : dq l (i + 1) ≠ d := fun z => h2 (decide_eq_true (congrArg V.int z))
      refine ⟨_, rfl, _, _, rfl, rfl, k - 1, by omega, i + 1, _, by omega, by omega, x5, fun c h3 h4 => ?_, rfl⟩
      by_cases hc : c = i
      · rw [hc]; exact h2
      · exact hno c h3 (by omega)
def spLastAt (K : PySem.W.Frag) : Sp := fun vs H Q E => ∃ (u : Addr) (l : List Bool) (j : Nat) (d : Int), vs = [.ref u, .int j, .int d] ∧ WoodAt K H u l ∧ j ≤ l.length ∧ ∀ H', Xt (tK K) H H' → Q (on (la l j d)) H'
theorem ok_Wood_last_at (T : Tx K mg) : OkN P w K mg base ("Wood", some "last_at") 7 ["self", "place", "deep"] (spLastAt K) := by
  refine T.F_Wood_last_at.ok sc_Wood_last_at (fun vs H Q E h => ?_) (fun cdv A outer s H vs Q E hr h => ?_)
  · obtain ⟨u, l, j, d, rfl, _⟩ := h
    rfl
  · obtain ⟨u, l, j, d, rfl, hw, hj, q⟩ := h
    have ⟨W, hl, r, dx, n, ew, er⟩ := hw
    refine ⟨_, (pss_cons (ps_set (i := 3) sc_Wood_last_at.nd rfl (.inl rfl) (pe_meth (dvs := []) (pv 0) T.k_Wood T.M_Wood_deep (ok_Wood_deep T) (hr.mono (by decide)) T.B_Wood_deep .nil psP (pa_cons (pv 1) pa_nil)))
    (pss_cons (ps_while (passes_of rfl) (pt_cmpR op_gt (pv 1) pe_int (nomark _))
    (pss_cons (ps_if (PW.pt (pw_and (pt_cmpR op_eq (pe_op op_mod (pv 1) (pe_glob (v := .int _) (by rfl) T.c_BLOCK.choose_spec ⟨_, rfl⟩)) pe_int (nomark _)) (pw_and1 (pt_cmpR op_gt (pe_meth (dvs := []) (pv 0) T.k_Wood T.M_Wood_low (ok_Wood_low T) (hr.mono (by decide)) T.B_Wood_low .nil psP (pa_cons (pe_op op_sub (pe_op op_fdivW (pv 1) (pe_glob (v := .int _) (by rfl) T.c_BLOCK.choose_spec ⟨_, rfl⟩)) pe_int) pa_nil)) (pv 2) (nomark _)))))
    (pss_cons (ps_set (i := 1) sc_Wood_last_at.nd rfl (.inl rfl) (pe_op op_sub (pv 1) (pe_glob (v := .int _) (by rfl) T.c_BLOCK.choose_spec ⟨_, rfl⟩)))
    (pss_one (ps_set (i := 3) sc_Wood_last_at.nd rfl (.inl rfl) (pe_meth (dvs := []) (pv 0) T.k_Wood T.M_Wood_deep (ok_Wood_deep T) (hr.mono (by decide)) T.B_Wood_deep .nil psP (pa_cons (pv 1) pa_nil))))) (pss_cons (ps_set (i := 1) sc_Wood_last_at.nd rfl (.inl rfl) (pe_op op_sub (pv 1) pe_int))
    (pss_one (ps_set (i := 3) sc_Wood_last_at.nd rfl (.inl rfl) (pe_op op_sub (pe_op op_add (pv 3) pe_int) (pe_op op_mul pe_int (pe_meth (dvs := []) (pe_fldK (K := K) rfl (pv 0) (by rfl)) T.k_Row T.M_Row_bit (ok_Row_bit T) (hr.mono (by decide)) T.B_Row_bit .nil psP (pa_cons (pv 1) pa_nil))))))))
    (pss_one (ps_if (pt_cmpR op_eq (pv 3) (pv 2) (nomark _))
    (pss_one (ps_ret (pv 1))) pss_nil))))
    (pss_one (ps_ret pe_non)))), ?_⟩
    refine ⟨_, rfl, u, _, _, rfl, ew, rfl, _, rfl, u, l, j, rfl, hw, hj, fun H1 x1 => ?_⟩
    refine ⟨fun i σ H' => i ≤ j ∧ Xt (tK K) H H' ∧ (∀ c, i ≤ c → c < j → dq l c ≠ d) ∧ σ = [some (.ref u), some (.int i), some (.int d), some (.int (dq l i))], ⟨j, Nat.le_refl _, x1, fun c h1 h2 => by omega, rfl⟩, fun i σ H' hW => ?_⟩
    obtain ⟨hij, x2, hno, rfl⟩ := hW
    have hw2 := hw.xt x2
    have ⟨_, _, r, dx, n, ew, er⟩ := hw2
    refine ⟨_, rfl, _, _, rfl, rfl, _, rfl, ite2 (fun h0 => ?_) (fun h0 => ?_)⟩
    rotate_left
    · simp only [decide_eq_true_eq] at h0
      have := q H' x2
      rw [la_none fun c h1 => hno c (by omega) h1] at this
      exact this
    have h0 := of_decide_eq_true h0
    have hi : 0 < i := by omega
    refine ⟨fun σ' H'' => ∃ m', m' < i ∧ m' ≤ j ∧ Xt (tK K) H H'' ∧ (∀ c, m' ≤ c → c < j → dq l c ≠ d) ∧ σ' = [some (.ref u), some (.int m'), some (.int d), some (.int (dq l m'))], fun _ _ h => h, ?_⟩
    apply via (P := fun H3 => Xt (tK K) H' H3)
    · intro rest
      refine ⟨_, rfl, _, _, rfl, rfl, (show (0 : Int) < 32 by decide), rfl, _, rfl, ite2 (fun h1 => ?_) (fun _ => iteF (rest _ .refl))⟩
      have h1 : (i : Int) % 32 = 0 := V.int.inj (of_decide_eq_true h1)
      have hb : i / 32 - 1 < l.length / 32 := by omega
      refine ⟨_, rfl, u, _, _, rfl, ew, rfl, _, rfl, _, _, rfl, rfl, wide_div (b := 6) (by decide) (by decide) (by decide) (by decide), _, _, rfl, rfl, u, l, i / 32 - 1, ?_, hw2, fun H3 x3 => ?_⟩
      · show [V.ref u, V.int ((i : Int) / 32 - 1)] = _
        rw [show ((i : Int) / 32 - 1) = ((i / 32 - 1 : Nat) : Int) by omega]
      rw [show lowV l (i / 32 - 1) = .int (lw l (i / 32 - 1)) from if_pos hb]
      refine ⟨_, rfl, _, _, rfl, rfl, _, rfl, ite2 (fun h2 => ?_) (fun _ => rest H3 x3)⟩
      have h2 := of_decide_eq_true h2
      have hw3 := hw2.xt x3
      have x3 := x2.trans x3
      have ⟨_, _, r, dx, n, ew, er⟩ := hw3
      refine ⟨_, rfl, _, _, rfl, rfl, _, rfl, u, _, _, rfl, ew, rfl, _, rfl, u, l, i - 32, ?_, hw3, by omega, fun H4 x4 => ?_⟩
      · show [V.ref u, V.int ((i : Int) - 32)] = _
        rw [show ((i : Int) - 32) = ((i - 32 : Nat) : Int) by omega]
      have hno2 : ∀ c, i - 32 < c → c < i → dq l c ≠ d := fun c h3 h4 => by
        have h6 := (lw_le W hb).2 (c - (i - 32) - 1) (by omega)
        rw [show (i / 32 - 1) * 32 + (c - (i - 32) - 1) + 1 = c by omega] at h6
        omega
      refine ⟨_, rfl, _, rfl, rfl, _, rfl, ite2 (fun h3 => ?_) (fun h3 => ?_)⟩
      · have h3 := V.int.inj (of_decide_eq_true h3)
        have := q H4 (x3.trans x4)
        rw [la_some (show i - 32 < j by omega) h3 fun c h4 h5 => (Nat.lt_or_ge c i).elim (hno2 c h4) fun h6 => hno c h6 h5] at this
        refine ⟨_, rfl, ?_⟩
        show Q (V.int ((i : Int) - 32)) H4
        rw [show ((i : Int) - 32) = ((i - 32 : Nat) : Int) by omega]
        exact this
      · have h3 : dq l (i - 32) ≠ d := fun z => h3 (decide_eq_true (congrArg V.int z))
        refine ⟨i - 32, by omega, by omega, x3.trans x4, fun c h4 h5 => ?_, ?_⟩
        · rcases Nat.lt_or_ge c i with h6 | h6
          · by_cases h7 : c = i - 32
            · rw [h7]; exact h3
            · exact hno2 c (by omega) h6
          · exact hno c h6 h5
        · rw [show ((i - 32 : Nat) : Int) = (i : Int) - 32 by omega]
          rfl
    intro H3 x3
    have hw3 := hw2.xt x3
    have x3 := x2.trans x3
    have ⟨_, _, r, dx, n, ew, er⟩ := hw3
    refine ⟨_, rfl, _, _, rfl, rfl, ?_⟩
    show gName 1 (V.int ((i : Int) - 1)) _ _ _
    rw [show ((i : Int) - 1) = ((i - 1 : Nat) : Int) by omega]
    refine ⟨_, rfl, _, _, rfl, rfl, _, rfl, u, _, dx, _, _, rfl, ew, T.k_Wood, T.n_Wood_row, rfl, r, _, _, rfl, er.2.choose_spec, rfl, _, rfl, r, l, n, _, rfl, er, fun i' b ei hb H4 x4 r4 => ?_, fun h => absurd h (by omega)⟩
    obtain rfl : i' = i - 1 := by omega
    have x4 := x3.trans x4
    refine ⟨_, _, rfl, rfl, .inl ⟨by decide, by decide⟩, _, _, rfl, rfl, ?_⟩
    have ed := dq_succ hb
    rw [show i - 1 + 1 = i by omega] at ed
    show gName 3 (V.int (dq l i + 1 - 2 * (b.toNat : Int))) _ _ _
    rw [show dq l i + 1 - 2 * (b.toNat : Int) = dq l (i - 1) by omega]
    refine ⟨_, rfl, _, rfl, rfl, _, rfl, ite2 (fun h3 => ?_) (fun h3 => ?_)⟩
    · have h3 := V.int.inj (of_decide_eq_true h3)
      have := q H4 x4
      rw [la_some (show i - 1 < j by omega) h3 fun c h4 h5 => hno c (by omega) h5] at this
      exact ⟨_, rfl, this⟩
    · have h3 : dq l (i - 1) ≠ d := fun z => h3 (decide_eq_true (congrArg V.int z))
      refine ⟨i - 1, by omega, by omega, x4, fun c h4 h5 => ?_, rfl⟩
      by_cases h7 : c = i - 1
      · rw [h7]; exact h3
      · exact hno c (by omega) h5
def spWNode (K : PySem.W.Frag) : Sp := fun vs H Q E => ∃ (u : Addr) (l : List Bool) (a : Int), vs = [.ref u, .int a] ∧ WoodAt K H u l ∧ (∀ j : Nat, a = j → j < l.length / 2 → ∀ H', Xt (tK K) H H' → Q (on (pos true l)[j]?) H') ∧ ((a < 0 ∨ ((l.length / 2 : Nat) : Int) ≤ a) → ∀ H', Xt (tK K) H H' → E (.ref (He.ga K "BadPlace")) none H')
theorem ok_Wood_node (T : Tx K mg) : OkN P w K mg base ("Wood", some "node") 8 ["self", "number"] (spWNode K) := by
  refine T.F_Wood_node.ok sc_Wood_node (fun vs H Q E h => ?_) (fun cdv A outer s H vs Q E hr h => ?_)
  · obtain ⟨u, l, a, rfl, _⟩ := h
    rfl
  · obtain ⟨u, l, a, rfl, hw, q1, q2⟩ := h
    have ⟨W, hl, r, dx, n, ew, er⟩ := hw
    refine ⟨_, (pss_cons (ps_expr (pe_meth (dvs := []) (pv 0) T.k_Wood T.M_Wood_need (ok_Wood_need T) (hr.mono (by decide)) T.B_Wood_need .nil psP (pa_cons (pe_chain op_le op_lt pe_int (pv 1) (pe_meth0 (dvs := []) (pv 0) T.k_Wood T.M_Wood_size (ok_Wood_size T) (hr.mono (by decide)) T.B_Wood_size .nil psP)) pa_nil)))
    (pss_one (ps_ret (pe_meth (dvs := []) (pe_fldK (K := K) rfl (pv 0) (by rfl)) T.k_Row T.M_Row_one_at (ok_Row_one_at T) (hr.mono (by decide)) T.B_Row_one_at .nil psP (pa_cons (pv 1) pa_nil))))), ?_⟩
    refine ⟨_, rfl, u, _, _, rfl, ew, rfl, _, rfl, _, _, rfl, rfl, _, rfl, ite2 (fun h0 => ?_) (fun h0 => ?_)⟩
    · have h0 := of_decide_eq_true h0
      obtain ⟨j, rfl⟩ : ∃ j : Nat, a = j := ⟨a.toNat, by omega⟩
      refine ⟨_, rfl, u, _, _, rfl, ew, rfl, u, l, rfl, hw, _, _, rfl, rfl, u, _, rfl, fun h1 => ?_, fun h1 => q2 (.inr (by have := of_decide_eq_false h1; omega)) H .refl⟩
      have h1 := of_decide_eq_true h1
      exact ⟨_, rfl, u, _, dx, _, _, rfl, ew, T.k_Wood, T.n_Wood_row, rfl, r, _, _, rfl, er.2.choose_spec, rfl, _, rfl, r, l, n, _, rfl, er, fun j' m ej H1 x1 r1 _ _ => by
        obtain rfl : j = j' := by omega
        exact q1 j rfl (by omega) H1 x1, fun h => absurd h (by omega)⟩
    · simp only [decide_eq_true_eq] at h0
      exact ⟨u, false, rfl, fun z => (by cases z), fun _ => q2 (.inl (by omega)) H .refl⟩
theorem ok_Wood_number (T : Tx K mg) : OkN P w K mg base ("Wood", some "number") 6 ["self", "node"] (spNode K fun l j => .int (cn true l j)) := by
  refine T.F_Wood_number.ok sc_Wood_number (fun vs H Q E h => node_len h) (fun cdv A outer s H vs Q E hr h => ?_)
  obtain ⟨u, l, p, rfl, hw, q1, q2⟩ := h
  have ⟨W, hl, r, dx, n, ew, er⟩ := hw
  refine ⟨_, (pss_cons (ps_expr (pe_meth (dvs := []) (pv 0) T.k_Wood T.M_Wood_need_node (ok_Wood_need_node T) (hr.mono (by decide)) T.B_Wood_need_node .nil psP (pa_cons (pv 1) pa_nil)))
    (pss_one (ps_ret (pe_meth (dvs := []) (pe_fldK (K := K) rfl (pv 0) (by rfl)) T.k_Row T.M_Row_ones (ok_Row_ones T) (hr.mono (by decide)) T.B_Row_ones .nil psP (pa_cons (pv 1) pa_nil))))), ?_⟩
  refine ⟨_, rfl, u, _, _, rfl, ew, rfl, _, rfl, u, l, p, rfl, hw, fun j ej hj H1 x1 => ?_, fun h H1 x1 => q2 h H1 x1⟩
  subst ej
  have hw1 := hw.xt x1
  have ⟨_, _, r, dx, n, ew, er⟩ := hw1
  exact ⟨_, rfl, u, _, dx, _, _, rfl, ew, T.k_Wood, T.n_Wood_row, rfl, r, _, _, rfl, er.2.choose_spec, rfl, _, rfl, r, l, n, _, rfl, er, fun j' ej _ H2 x2 r2 => by
    obtain rfl : j = j' := by omega
    exact q1 j rfl hj H2 (x1.trans x2), fun h => absurd h (by have := len_of hj; omega)⟩
theorem ok_Wood_end (T : Tx K mg) : OkN P w K mg base ("Wood", some "end") 8 ["self", "node"] (spNode K fun l j => .int (en l j)) := by
  refine T.F_Wood_end.ok sc_Wood_end (fun vs H Q E h => node_len h) (fun cdv A outer s H vs Q E hr h => ?_)
  obtain ⟨u, l, p, rfl, hw, q1, q2⟩ := h
  have ⟨W, hl, r, dx, n, ew, er⟩ := hw
  refine ⟨_, (pss_cons (ps_expr (pe_meth (dvs := []) (pv 0) T.k_Wood T.M_Wood_need_node (ok_Wood_need_node T) (hr.mono (by decide)) T.B_Wood_need_node .nil psP (pa_cons (pv 1) pa_nil)))
    (pss_one (ps_ret (pe_meth (dvs := []) (pv 0) T.k_Wood T.M_Wood_first_down (ok_Wood_first_down T) (hr.mono (by decide)) T.B_Wood_first_down .nil psP (pa_cons (pv 1) (pa_cons (pe_meth (dvs := []) (pv 0) T.k_Wood T.M_Wood_deep (ok_Wood_deep T) (hr.mono (by decide)) T.B_Wood_deep .nil psP (pa_cons (pv 1) pa_nil)) pa_nil)))))), ?_⟩
  refine ⟨_, rfl, u, _, _, rfl, ew, rfl, _, rfl, u, l, p, rfl, hw, fun j ej hj H1 x1 => ?_, fun h H1 x1 => q2 h H1 x1⟩
  subst ej
  have hle := Nat.le_of_lt (len_of hj)
  have hw1 := hw.xt x1
  have ⟨_, _, r, dx, n, ew, er⟩ := hw1
  refine ⟨_, rfl, u, _, _, rfl, ew, rfl, _, rfl, _, rfl, u, _, _, rfl, ew, rfl, _, rfl, u, l, j, rfl, hw1, hle, fun H2 x2 => ⟨u, l, j, _, rfl, hw1.xt x2, hle, fun H3 x3 => ?_⟩⟩
  rw [(ends_en W hj).fd]
  exact q1 j rfl hj H3 (x1.trans (x2.trans x3))
theorem ok_Wood_number_behind (T : Tx K mg) : OkN P w K mg base ("Wood", some "number_behind") 9 ["self", "node"] (spNode K fun l j => .int (cn false l (en l j))) := by
  refine T.F_Wood_number_behind.ok sc_Wood_number_behind (fun vs H Q E h => node_len h) (fun cdv A outer s H vs Q E hr h => ?_)
  obtain ⟨u, l, p, rfl, hw, q1, q2⟩ := h
  have ⟨W, hl, r, dx, n, ew, er⟩ := hw
  refine ⟨_, (pss_one (ps_ret (pe_meth (dvs := []) (pe_fldK (K := K) rfl (pv 0) (by rfl)) T.k_Row T.M_Row_noughts (ok_Row_noughts T) (hr.mono (by decide)) T.B_Row_noughts .nil psP (pa_cons (pe_meth (dvs := []) (pv 0) T.k_Wood T.M_Wood_end (ok_Wood_end T) (hr.mono (by decide)) T.B_Wood_end .nil psP (pa_cons (pv 1) pa_nil)) pa_nil)))), ?_⟩
  refine ⟨_, rfl, u, _, dx, _, _, rfl, ew, T.k_Wood, T.n_Wood_row, rfl, r, _, _, rfl, er.2.choose_spec, rfl, _, rfl, u, _, _, rfl, ew, rfl, _, rfl, u, l, p, rfl, hw, fun j ej hj H1 x1 => ?_, fun h H1 x1 => q2 h H1 x1⟩
  subst ej
  have hle := (ends_en W hj).le
  obtain ⟨n1, er1⟩ := er.xt x1
  exact ⟨r, l, n1, _, rfl, er1, fun j' ej _ H2 x2 r2 => by
    obtain rfl : en l j = j' := by omega
    exact q1 j rfl hj H2 (x1.trans x2), fun h => absurd h (by omega)⟩
theorem ok_Wood_depth (T : Tx K mg) : OkN P w K mg base ("Wood", some "depth") 7 ["self", "node"] (spNode K fun l j => .int (dq l j)) := by
  refine T.F_Wood_depth.ok sc_Wood_depth (fun vs H Q E h => node_len h) (fun cdv A outer s H vs Q E hr h => ?_)
  obtain ⟨u, l, p, rfl, hw, q1, q2⟩ := h
  have ⟨W, hl, r, dx, n, ew, er⟩ := hw
  refine ⟨_, (pss_cons (ps_expr (pe_meth (dvs := []) (pv 0) T.k_Wood T.M_Wood_need_node (ok_Wood_need_node T) (hr.mono (by decide)) T.B_Wood_need_node .nil psP (pa_cons (pv 1) pa_nil)))
    (pss_one (ps_ret (pe_meth (dvs := []) (pv 0) T.k_Wood T.M_Wood_deep (ok_Wood_deep T) (hr.mono (by decide)) T.B_Wood_deep .nil psP (pa_cons (pv 1) pa_nil))))), ?_⟩
  refine ⟨_, rfl, u, _, _, rfl, ew, rfl, _, rfl, u, l, p, rfl, hw, fun j ej hj H1 x1 => ?_, fun h H1 x1 => q2 h H1 x1⟩
  subst ej
  have hw1 := hw.xt x1
  have ⟨_, _, r, dx, n, ew, er⟩ := hw1
  exact ⟨_, rfl, u, _, _, rfl, ew, rfl, _, rfl, u, l, j, rfl, hw1, Nat.le_of_lt (len_of hj), fun H2 x2 => q1 j rfl hj H2 (x1.trans x2)⟩
theorem ok_Wood_many (T : Tx K mg) : OkN P w K mg base ("Wood", some "many") 9 ["self", "node"] (spNode K fun l j => .int (many l j)) := by
  refine T.F_Wood_many.ok sc_Wood_many (fun vs H Q E h => node_len h) (fun cdv A outer s H vs Q E hr h => ?_)
  obtain ⟨u, l, p, rfl, hw, q1, q2⟩ := h
  have ⟨W, hl, r, dx, n, ew, er⟩ := hw
  refine ⟨_, (pss_one (ps_ret (pe_op op_fdiv (pe_op op_sub (pe_op op_add (pe_meth (dvs := []) (pv 0) T.k_Wood T.M_Wood_end (ok_Wood_end T) (hr.mono (by decide)) T.B_Wood_end .nil psP (pa_cons (pv 1) pa_nil)) pe_int) (pv 1)) pe_int))), ?_⟩
  refine ⟨_, rfl, u, _, _, rfl, ew, rfl, _, rfl, u, l, p, rfl, hw, fun j ej hj H1 x1 => ?_, fun h H1 x1 => q2 h H1 x1⟩
  subst ej
  have h2 := (ends_en W hj).lt
  refine ⟨_, _, rfl, rfl, _, rfl, _, _, rfl, rfl, _, _, rfl, rfl, ⟨by decide, by decide⟩, ?_⟩
  have : Q (.int (((en l j + 1 - j) / 2 : Nat) : Int)) H1 := q1 j rfl hj H1 x1
  rw [show ((((en l j + 1 - j) / 2 : Nat)) : Int) = ((en l j : Int) + 1 - (j : Int)) / 2 by omega] at this
  exact this
/-- a deed with a node that tells a new list -/
def spNodes (K : PySem.W.Frag) (f : List Bool → Nat → List Nat) : Sp := fun vs H Q E => ∃ (u : Addr) (l : List Bool) (p : Int), vs = [.ref u, .int p] ∧ WoodAt K H u l ∧ (∀ j : Nat, p = j → l[j]? = some true → ∀ H' a, Xt (tK K) H H' → Nw H a → H' a = some (.lst ((f l j).map fun i : Nat => .int i)) → Q (.ref a) H') ∧
  ((∀ j : Nat, p = j → ¬ l[j]? = some true) → ∀ H', Xt (tK K) H H' → E (.ref (He.ga K "BadPlace")) none H')
theorem nodes_len {f : List Bool → Nat → List Nat} {vs : List V} {H : Hp} {Q : VK} {E : XK} (h : spNodes K f vs H Q E) : vs.length = 2 := by
  obtain ⟨u, l, p, rfl, _⟩ := h
  rfl
theorem ok_Wood_own_nodes (T : Tx K mg) : OkN P w K mg base ("Wood", some "own_nodes") 10 ["self", "node"] (spNodes K own) := by
  refine T.F_Wood_own_nodes.ok sc_Wood_own_nodes (fun vs H Q E h => nodes_len h) (fun cdv A outer s H vs Q E hr h => ?_)
  obtain ⟨u, l, p, rfl, hw, q1, q2⟩ := h
  have ⟨W, hl, r, dx, n, ew, er⟩ := hw
  refine ⟨_, (pss_cons (ps_set (i := 2) sc_Wood_own_nodes.nd rfl (.inl rfl) (pe_meth (dvs := []) (pv 0) T.k_Wood T.M_Wood_number (ok_Wood_number T) (hr.mono (by decide)) T.B_Wood_number .nil psP (pa_cons (pv 1) pa_nil)))
    (pss_one (ps_ret (pe_lc (own := [("number", 3)]) rfl sc_Wood_own_nodes.nd (pi_range2 (by rfl) T.z_range (pa_cons (pv 2) (pa_cons (pe_op op_add (pv 2) (pe_meth (dvs := []) (pv 0) T.k_Wood T.M_Wood_many (ok_Wood_many T) (hr.mono (by decide)) T.B_Wood_many .nil psP (pa_cons (pv 1) pa_nil))) pa_nil))) (blkOk_by (N := N_Wood_own_nodes) (sc := defScope s_Wood_own_nodes) (by decide +kernel)) (fun _ _ _ _ _ => (pg_name (i := 3) sc_Wood_own_nodes.nd rfl (.inl rfl))) (fun _ _ _ _ _ => pts_nil) (fun _ _ _ _ _ => (pe_meth (dvs := []) (pe_fldK (K := K) rfl (pv 0) (by rfl)) T.k_Row T.M_Row_one_at (ok_Row_one_at T) (hr.mono (by decide)) T.B_Row_one_at .nil psP0 (pa_cons (pv 3) pa_nil))))))), ?_⟩
  refine ⟨_, rfl, u, _, _, rfl, ew, rfl, _, rfl, u, l, p, rfl, hw, fun j ej hj H1 x1 => ?_, fun h H1 x1 => q2 h H1 x1⟩
  subst ej
  have hw1 := hw.xt x1
  have ⟨_, _, r, dx, n, ew, er⟩ := hw1
  obtain ⟨hm1, hm2⟩ := cn_many W hj
  have hE := (ends_en W hj).le
  have hc : cn true l (en l j + 1) ≤ en l j + 1 := cn_le
  refine ⟨_, rfl, _, rfl, _, rfl, u, _, _, rfl, ew, rfl, _, rfl, u, l, _, rfl, hw1, fun j' ej _ H2 x2 => ?_, fun h => absurd hj (h j rfl)⟩
  obtain rfl : j = j' := by omega
  refine ⟨_, _, rfl, rfl, _, _, rfl, ⟨by omega, by omega, by omega, by omega⟩, fun D hD => lcP (T := tK K) w_range hD (by omega) (fun _ _ => trivial) (fun i => .int (((own l j).getD i 0 : Nat) : Int)) ?_ fun H3 x3 e3 => ?_⟩
  · intro i x H' hi hy x3 Q q
    subst hy
    have hi : i < many l j := by omega
    obtain ⟨c, h1, h2, _⟩ := own_get W hj hi
    have hw3 := (hw1.xt x2).xt x3
    have ⟨_, _, r, dx, n, ew, er⟩ := hw3
    refine ⟨_, rfl, u, _, dx, _, _, rfl, ew, T.k_Wood, T.n_Wood_row, rfl, r, _, _, rfl, er.2.choose_spec, rfl, _, rfl, r, l, n, _, rfl, er, fun j' m ej H4 x4 r4 _ _ => ?_, fun h => absurd h (by omega)⟩
    obtain rfl : cn true l j + i = j' := by omega
    rw [h1]
    rw [List.getD_eq_getElem?_getD, h2] at q
    exact q H4 x4
  · refine q1 j rfl hj H3 D (x1.trans (x2.trans x3)) ((x1.trans x2).nw (.of hD)) ?_
    rw [e3, show (((cn true l j : Nat) : Int) + ((many l j : Nat) : Int) - ((cn true l j : Nat) : Int)).toNat = (own l j).length by rw [ownN_len W hj]; omega]
    congr 2
    refine List.ext_getElem (by simp) fun i h1 h2 => ?_
    have h3 : i < (own l j).length := by simpa using h1
    simp [List.getD_eq_getElem?_getD, List.getElem?_eq_getElem h3]
theorem ok_Wood_leaves (T : Tx K mg) : OkN P w K mg base ("Wood", some "leaves") 11 ["self", "node"] (spNode K fun l j => .int (leaves l j)) := by
  refine T.F_Wood_leaves.ok sc_Wood_leaves (fun vs H Q E h => node_len h) (fun cdv A outer s H vs Q E hr h => ?_)
  obtain ⟨u, l, p, rfl, hw, q1, q2⟩ := h
  have ⟨W, hl, r, dx, n, ew, er⟩ := hw
  refine ⟨_, (pss_one (ps_ret (pe_callB (call_len_seqK (K := K) rfl) (by rfl) T.z_len b_len (pa_cons (pe_lc (own := [("one", 2)]) rfl sc_Wood_leaves.nd (pi_listK (K := K) rfl (pe_meth (dvs := []) (pv 0) T.k_Wood T.M_Wood_own_nodes (ok_Wood_own_nodes T) (hr.mono (by decide)) T.B_Wood_own_nodes .nil psP (pa_cons (pv 1) pa_nil))) (blkOk_by (N := N_Wood_leaves) (sc := defScope s_Wood_leaves) (by decide +kernel)) (fun _ _ _ _ _ => (pg_name (i := 2) sc_Wood_leaves.nd rfl (.inl rfl))) (fun _ _ _ _ _ => (pts_one (pt_cmpR op_eq (pe_meth (dvs := []) (pe_fldK (K := K) rfl (pv 0) (by rfl)) T.k_Row T.M_Row_bit (ok_Row_bit T) (hr.mono (by decide)) T.B_Row_bit .nil psP0 (pa_cons (pe_op op_add (pv 2) pe_int) pa_nil)) pe_int (nomark _)))) (fun _ _ _ _ _ => (pv 2))) pa_nil)))), ?_⟩
  refine ⟨_, rfl, u, _, _, rfl, ew, rfl, _, rfl, u, l, p, rfl, hw, fun j ej hj H1 a x1 na ea => ?_, fun h H1 x1 => q2 h H1 x1⟩
  subst ej
  have hw1 := hw.xt x1
  have hol := ownN_len W hj
  obtain ⟨hm1, hm2⟩ := cn_many W hj
  have hE := (ends_en W hj).le
  have hmem := fun c => own_mem (c := c) W hj
  refine ⟨a, rfl, ⟨_, SqL.of ea⟩, fun D hD => lcF (T := tK K) w_list hD (by rw [List.length_map]; omega) (fun H' x => SqL.of (x.lst ea)) (fun i => leaf l ((own l j).getD i 0)) (fun i => .int (((own l j).getD i 0 : Nat) : Int)) ?_ ?_ fun H2 x2 e2 => ?_⟩
  · intro i x H' hi hy x2 Q q
    rw [List.getElem?_map] at hy
    obtain ⟨c, hc, rfl⟩ := Option.map_eq_some_iff.mp hy
    obtain ⟨hc1, _, _⟩ := (hmem c).mp (List.mem_of_getElem? hc)
    rw [List.getD_eq_getElem?_getD, hc] at q
    have hw2 := hw1.xt x2
    have ⟨_, _, r, dx, n, ew, er⟩ := hw2
    have hn := next_bit W hc1
    refine ⟨_, rfl, u, _, dx, _, _, rfl, ew, T.k_Wood, T.n_Wood_row, rfl, r, _, _, rfl, er.2.choose_spec, rfl, _, rfl, _, _, rfl, rfl, r, l, n, _, rfl, er, fun j' b ej hb H4 x4 r4 => ⟨rfl, _, rfl, ?_⟩, fun h => absurd h (by omega)⟩
    obtain rfl : c + 1 = j' := by omega
    have : decide (V.int ((b.toNat : Nat) : Int) = V.int 0) = leaf l c := by
      unfold leaf
      rw [hb]
      cases b <;> decide
    rw [this]
    exact q H4 x4
  · intro i x H' hi hy _ x2 Q q
    rw [List.getElem?_map] at hy
    obtain ⟨c, hc, rfl⟩ := Option.map_eq_some_iff.mp hy
    rw [List.getD_eq_getElem?_getD, hc] at q
    exact ⟨_, rfl, q H' .refl⟩
  · rw [List.length_map, kept_list (own l j) (leaf l) (fun c => .int (c : Nat))] at e2
    refine ⟨_, _, rfl, .inl (SqL.of e2), ?_⟩
    rw [List.length_map]
    exact q1 j rfl hj H2 (x1.trans x2)
theorem ok_Wood_deepest (T : Tx K mg) : OkN P w K mg base ("Wood", some "deepest") 11 ["self", "node"] (spNode K fun l j => .int (dps l j)) := by
  refine T.F_Wood_deepest.ok sc_Wood_deepest (fun vs H Q E h => node_len h) (fun cdv A outer s H vs Q E hr h => ?_)
  obtain ⟨u, l, p, rfl, hw, q1, q2⟩ := h
  have ⟨W, hl, r, dx, n, ew, er⟩ := hw
  refine ⟨_, (pss_cons (ps_set (i := 2) sc_Wood_deepest.nd rfl (.inl rfl) (pv 1))
    (pss_cons (ps_for (passes_of rfl) rfl (pi_listK (K := K) rfl (pe_meth (dvs := []) (pv 0) T.k_Wood T.M_Wood_own_nodes (ok_Wood_own_nodes T) (hr.mono (by decide)) T.B_Wood_own_nodes .nil psP (pa_cons (pv 1) pa_nil))) (pg_name (i := 3) sc_Wood_deepest.nd rfl (.inl rfl))
    (pss_one (ps_if (pt_cmpR op_gt (pe_meth (dvs := []) (pv 0) T.k_Wood T.M_Wood_deep (ok_Wood_deep T) (hr.mono (by decide)) T.B_Wood_deep .nil psP (pa_cons (pv 3) pa_nil)) (pe_meth (dvs := []) (pv 0) T.k_Wood T.M_Wood_deep (ok_Wood_deep T) (hr.mono (by decide)) T.B_Wood_deep .nil psP (pa_cons (pv 2) pa_nil)) (nomark _))
    (pss_one (ps_set (i := 2) sc_Wood_deepest.nd rfl (.inl rfl) (pv 3))) pss_nil)))
    (pss_one (ps_ret (pv 2))))), ?_⟩
  refine ⟨_, rfl, _, rfl, u, _, _, rfl, ew, rfl, _, rfl, u, l, p, rfl, hw, fun j ej hj H1 a x1 na ea => ?_, fun h H1 x1 => q2 h H1 x1⟩
  subst ej
  have hmem := fun c => own_mem (c := c) W hj
  refine ⟨a, rfl, ⟨_, SqL.of ea⟩, for_it w_list (fun i σ H' => Xt (tK K) H1 H' ∧ ∃ t, σ = [some (.ref u), some (.int j), some (.int (dpF l ((own l j).take i) j : Nat)), t]) ⟨.refl, none, rfl⟩ (fun _ _ _ _ p => SqL.of (p.1.lst ea)) ?_ ?_⟩
  · intro i x σ Ha Hb hi hp hy
    obtain ⟨xa, t, rfl⟩ := hp
    obtain ⟨rfl, hx⟩ := hy
    rw [List.getElem?_map] at hx
    obtain ⟨c, hc, rfl⟩ := Option.map_eq_some_iff.mp hx
    obtain ⟨hc1, _, _⟩ := (hmem c).mp (List.mem_of_getElem? hc)
    have et : (own l j).take (i + 1) = (own l j).take i ++ [c] := by rw [List.take_add_one, hc]; rfl
    have hf : l[dpF l ((own l j).take i) j]? = some true := by
      rcases dpF_mem (l := l) ((own l j).take i) j with h | h
      · rw [h]; exact hj
      · exact ((hmem _).mp (List.mem_of_mem_take h)).1
    have e2 := dpF_snoc l ((own l j).take i) c j
    rw [← et] at e2
    generalize dpF l ((own l j).take i) j = f at hf e2 ⊢
    have hw1 := hw.xt (x1.trans xa)
    have ⟨_, _, r, dx, n, ew, er⟩ := hw1
    refine ⟨_, rfl, u, _, _, rfl, ew, rfl, _, rfl, u, l, c, rfl, hw1, Nat.le_of_lt (len_of hc1), fun H2 x2 => ?_⟩
    have hw2 := hw1.xt x2
    have ⟨_, _, r, dx, n, ew, er⟩ := hw2
    refine ⟨_, rfl, u, _, _, rfl, ew, rfl, _, rfl, u, l, f, rfl, hw2, Nat.le_of_lt (len_of hf), fun H3 x3 => ?_⟩
    refine ⟨_, _, rfl, rfl, _, rfl, ite2 (fun h => ?_) (fun h => ?_)⟩
    · have h := of_decide_eq_true h
      rw [if_pos h] at e2
      exact ⟨_, rfl, xa.trans (x2.trans x3), _, by rw [e2]; rfl⟩
    · simp only [decide_eq_true_eq] at h
      rw [if_neg (by omega)] at e2
      exact ⟨xa.trans (x2.trans x3), _, by rw [e2]; rfl⟩
  · intro σ Ha hp
    obtain ⟨xa, t, rfl⟩ := hp
    rw [List.length_map, List.take_length]
    exact ⟨_, rfl, q1 j rfl hj Ha (x1.trans xa)⟩
theorem ok_Wood_height (T : Tx K mg) : OkN P w K mg base ("Wood", some "height") 12 ["self", "node"] (spNode K fun l j => .int (height l j)) := by
  refine T.F_Wood_height.ok sc_Wood_height (fun vs H Q E h => node_len h) (fun cdv A outer s H vs Q E hr h => ?_)
  obtain ⟨u, l, p, rfl, hw, q1, q2⟩ := h
  have ⟨W, hl, r, dx, n, ew, er⟩ := hw
  refine ⟨_, (pss_one (ps_ret (pe_op op_sub (pe_meth (dvs := []) (pv 0) T.k_Wood T.M_Wood_depth (ok_Wood_depth T) (hr.mono (by decide)) T.B_Wood_depth .nil psP (pa_cons (pe_meth (dvs := []) (pv 0) T.k_Wood T.M_Wood_deepest (ok_Wood_deepest T) (hr.mono (by decide)) T.B_Wood_deepest .nil psP (pa_cons (pv 1) pa_nil)) pa_nil)) (pe_meth (dvs := []) (pv 0) T.k_Wood T.M_Wood_depth (ok_Wood_depth T) (hr.mono (by decide)) T.B_Wood_depth .nil psP (pa_cons (pv 1) pa_nil))))), ?_⟩
  refine ⟨_, rfl, u, _, _, rfl, ew, rfl, _, rfl, u, _, _, rfl, ew, rfl, _, rfl, u, l, p, rfl, hw, fun j ej hj H1 x1 => ?_, fun h H1 x1 => q2 h H1 x1⟩
  subst ej
  have hw1 := hw.xt x1
  refine ⟨u, l, _, rfl, hw1, fun j' ej _ H2 x2 => ?_, fun h => absurd (dps_one W hj) (h _ rfl)⟩
  obtain rfl : dps l j = j' := by omega
  have hw2 := hw1.xt x2
  have ⟨_, _, r, dx, n, ew, er⟩ := hw2
  refine ⟨_, rfl, u, _, _, rfl, ew, rfl, _, rfl, u, l, _, rfl, hw2, fun j' ej _ H3 x3 => ?_, fun h => absurd hj (h j rfl)⟩
  obtain rfl : j = j' := by omega
  exact ⟨_, _, rfl, rfl, q1 j rfl hj H3 (x1.trans (x2.trans x3))⟩
def spAbove (K : PySem.W.Frag) : Sp := fun vs H Q E => ∃ (u : Addr) (l : List Bool) (p s : Int), vs = [.ref u, .int p, .int s] ∧ WoodAt K H u l ∧ (∀ j k : Nat, p = j → s = k → l[j]? = some true → ∀ H', Xt (tK K) H H' → Q (on (ab l j k)) H') ∧
  (((∀ j : Nat, p = j → ¬ l[j]? = some true) ∨ s < 0) → ∀ H', Xt (tK K) H H' → E (.ref (He.ga K "BadPlace")) none H')
theorem ok_Wood_above (T : Tx K mg) : OkN P w K mg base ("Wood", some "above") 8 ["self", "node", "steps"] (spAbove K) := by
  refine T.F_Wood_above.ok sc_Wood_above (fun vs H Q E h => ?_) (fun cdv A outer s H vs Q E hr h => ?_)
  · obtain ⟨u, l, p, s, rfl, _⟩ := h
    rfl
  · obtain ⟨u, l, p, st, rfl, hw, q1, q2⟩ := h
    have ⟨W, hl, r, dx, n, ew, er⟩ := hw
    refine ⟨_, (pss_cons (ps_expr (pe_meth (dvs := []) (pv 0) T.k_Wood T.M_Wood_need_node (ok_Wood_need_node T) (hr.mono (by decide)) T.B_Wood_need_node .nil psP (pa_cons (pv 1) pa_nil)))
    (pss_cons (ps_expr (pe_meth (dvs := []) (pv 0) T.k_Wood T.M_Wood_need (ok_Wood_need T) (hr.mono (by decide)) T.B_Wood_need .nil psP (pa_cons (pe_cmpR op_ge (pv 2) pe_int (nomark _)) pa_nil)))
    (pss_cons (ps_if (pt_cmpR op_eq (pv 2) pe_int (nomark _))
    (pss_one (ps_ret (pv 1))) pss_nil)
    (pss_cons (ps_if (pt_cmpR op_gt (pv 2) (pe_meth (dvs := []) (pv 0) T.k_Wood T.M_Wood_deep (ok_Wood_deep T) (hr.mono (by decide)) T.B_Wood_deep .nil psP (pa_cons (pv 1) pa_nil)) (nomark _))
    (pss_one (ps_ret pe_non)) pss_nil)
    (pss_one (ps_ret (pe_meth (dvs := []) (pv 0) T.k_Wood T.M_Wood_last_at (ok_Wood_last_at T) (hr.mono (by decide)) T.B_Wood_last_at .nil psP (pa_cons (pv 1) (pa_cons (pe_op op_sub (pe_meth (dvs := []) (pv 0) T.k_Wood T.M_Wood_deep (ok_Wood_deep T) (hr.mono (by decide)) T.B_Wood_deep .nil psP (pa_cons (pv 1) pa_nil)) (pv 2)) pa_nil))))))))), ?_⟩
    refine ⟨_, rfl, u, _, _, rfl, ew, rfl, _, rfl, u, l, p, rfl, hw, fun j ej hj H1 x1 => ?_, fun h H1 x1 => q2 (.inl h) H1 x1⟩
    subst ej
    have hw1 := hw.xt x1
    have ⟨_, _, r, dx, n, ew, er⟩ := hw1
    refine ⟨_, rfl, u, _, _, rfl, ew, rfl, _, rfl, _, _, rfl, rfl, u, _, rfl, fun h0 => ?_, fun h0 => q2 (.inr (by have := of_decide_eq_false h0; omega)) H1 x1⟩
    have h0 := of_decide_eq_true h0
    obtain ⟨k, rfl⟩ : ∃ k : Nat, st = k := ⟨st.toNat, by omega⟩
    have hle := Nat.le_of_lt (len_of hj)
    have hsl := stk_len W hle
    have q1 := q1 j k rfl rfl hj
    refine ⟨_, rfl, rfl, _, rfl, ite2 (fun h1 => ?_) (fun h1 => ?_)⟩
    · have h1 := V.int.inj (of_decide_eq_true h1)
      have h2 : ab l j k = some j := if_pos (by omega)
      rw [h2] at q1
      exact ⟨_, rfl, q1 H1 x1⟩
    have h1 : k ≠ 0 := fun z => h1 (decide_eq_true (by rw [z]; rfl))
    refine ⟨_, rfl, _, rfl, u, _, _, rfl, ew, rfl, _, rfl, u, l, j, rfl, hw1, hle, fun H2 x2 => ⟨_, _, rfl, rfl, _, rfl, ite2 (fun h2 => ?_) (fun h2 => ?_)⟩⟩
    · have h2 := of_decide_eq_true h2
      have h3 : ab l j k = none := by
        unfold ab
        rw [if_neg h1, if_pos (by omega)]
      rw [h3] at q1
      exact q1 H2 (x1.trans x2)
    simp only [decide_eq_true_eq] at h2
    have hw2 := hw1.xt x2
    have ⟨_, _, r, dx, n, ew, er⟩ := hw2
    refine ⟨_, rfl, u, _, _, rfl, ew, rfl, _, rfl, _, rfl, u, _, _, rfl, ew, rfl, _, rfl, u, l, j, rfl, hw2, hle, fun H3 x3 => ⟨_, rfl, _, _, rfl, rfl, u, l, j, _, rfl, hw2.xt x3, hle, fun H4 x4 => ?_⟩⟩
    have hx : (stk l j).length - k < (stk l j).length := by omega
    have h3 : ab l j k = some ((stk l j)[(stk l j).length - k]) := by
      unfold ab
      rw [if_neg h1, if_neg (by omega), List.getElem?_eq_getElem hx]
    rw [h3] at q1
    have h4 := stk_la W (List.getElem?_eq_getElem hx) hle
    rw [show dq l j - (k : Int) = (((stk l j).length - k : Nat) : Int) by omega, h4]
    exact q1 H4 (x1.trans (x2.trans (x3.trans x4)))
theorem ok_Wood_parent (T : Tx K mg) : OkN P w K mg base ("Wood", some "parent") 9 ["self", "node"] (spNode K fun l j => on (up l j)) := by
  refine T.F_Wood_parent.ok sc_Wood_parent (fun vs H Q E h => node_len h) (fun cdv A outer s H vs Q E hr h => ?_)
  obtain ⟨u, l, p, rfl, hw, q1, q2⟩ := h
  have ⟨W, hl, r, dx, n, ew, er⟩ := hw
  refine ⟨_, (pss_one (ps_ret (pe_meth (dvs := []) (pv 0) T.k_Wood T.M_Wood_above (ok_Wood_above T) (hr.mono (by decide)) T.B_Wood_above .nil psP (pa_cons (pv 1) (pa_cons pe_int pa_nil))))), ?_⟩
  refine ⟨_, rfl, u, _, _, rfl, ew, rfl, _, rfl, u, l, p, 1, rfl, hw, fun j k ej ek hj H1 x1 => ?_, fun h H1 x1 => q2 (h.resolve_right (by decide)) H1 x1⟩
  obtain rfl : k = 1 := by omega
  have := q1 j ej hj H1 x1
  rw [ab_one]
  exact this
theorem ok_Wood_next_child (T : Tx K mg) : OkN P w K mg base ("Wood", some "next_child") 9 ["self", "node"] (spNode K fun l j => on (nx l j)) := by
  refine T.F_Wood_next_child.ok sc_Wood_next_child (fun vs H Q E h => node_len h) (fun cdv A outer s H vs Q E hr h => ?_)
  obtain ⟨u, l, p, rfl, hw, q1, q2⟩ := h
  have ⟨W, hl, r, dx, n, ew, er⟩ := hw
  refine ⟨_, (pss_cons (ps_set (i := 2) sc_Wood_next_child.nd rfl (.inl rfl) (pe_op op_add (pe_meth (dvs := []) (pv 0) T.k_Wood T.M_Wood_end (ok_Wood_end T) (hr.mono (by decide)) T.B_Wood_end .nil psP (pa_cons (pv 1) pa_nil)) pe_int))
    (pss_cons (ps_if (PW.pt (pw_and (pt_cmpR op_lt (pv 2) (pe_meth0 (dvs := []) (pe_fldK (K := K) rfl (pv 0) (by rfl)) T.k_Row T.M_Row_size (ok_Row_size T) (hr.mono (by decide)) T.B_Row_size .nil psP) (nomark _)) (pw_and1 (pt_cmpR op_eq (pe_meth (dvs := []) (pe_fldK (K := K) rfl (pv 0) (by rfl)) T.k_Row T.M_Row_bit (ok_Row_bit T) (hr.mono (by decide)) T.B_Row_bit .nil psP (pa_cons (pv 2) pa_nil)) pe_int (nomark _)))))
    (pss_one (ps_ret (pv 2))) pss_nil)
    (pss_one (ps_ret pe_non)))), ?_⟩
  refine ⟨_, rfl, u, _, _, rfl, ew, rfl, _, rfl, u, l, p, rfl, hw, fun j ej hj H1 x1 => ?_, fun h H1 x1 => q2 h H1 x1⟩
  subst ej
  have hw1 := hw.xt x1
  have ⟨_, _, r, dx, n, ew, er⟩ := hw1
  have hE := (ends_en W hj).le
  have q1 : ∀ H', Xt (tK K) H H' → Q (on (nx l j)) H' := q1 j rfl hj
  have no : ¬ l[en l j + 1]? = some true → nx l j = none := fun h => if_neg h
  refine ⟨_, _, rfl, rfl, _, rfl, _, rfl, u, _, dx, _, _, rfl, ew, T.k_Wood, T.n_Wood_row, rfl, r, _, _, rfl, er.2.choose_spec, rfl, r, l, n, rfl, er, _, _, rfl, rfl, _, rfl, ite2 (fun h0 => ?_) (fun h0 => ?_)⟩
  · have h0 := of_decide_eq_true h0
    refine ⟨_, rfl, u, _, dx, _, _, rfl, ew, T.k_Wood, T.n_Wood_row, rfl, r, _, _, rfl, er.2.choose_spec, rfl, _, rfl, r, l, n, _, rfl, er, fun i b ei hb H2 x2 r2 => ⟨rfl, _, rfl, ite2 (fun h1 => ?_) (fun h1 => ?_)⟩, fun h => absurd h (by omega)⟩
    · obtain rfl : en l j + 1 = i := by omega
      have h1 := V.int.inj (of_decide_eq_true h1)
      cases b
      · cases h1
      have h2 : nx l j = some (en l j + 1) := if_pos hb
      rw [h2] at q1
      exact ⟨_, rfl, q1 H2 (x1.trans x2)⟩
    · obtain rfl : en l j + 1 = i := by omega
      cases b
      · rw [no (by rw [hb]; decide)] at q1
        exact q1 H2 (x1.trans x2)
      · exact absurd rfl h1
  · simp only [decide_eq_true_eq] at h0
    rw [no fun z => by have := len_of z; omega] at q1
    exact iteF (q1 H1 x1)
theorem ok_Wood_children (T : Tx K mg) : OkN P w K mg base ("Wood", some "children") 10 ["self", "node"] (spNodes K below) := by
  refine T.F_Wood_children.ok sc_Wood_children (fun vs H Q E h => nodes_len h) (fun cdv A outer s H vs Q E hr h => ?_)
  obtain ⟨u, l, p, rfl, hw, q1, q2⟩ := h
  have ⟨W, hl, r, dx, n, ew, er⟩ := hw
  refine ⟨_, (pss_cons (ps_expr (pe_meth (dvs := []) (pv 0) T.k_Wood T.M_Wood_need_node (ok_Wood_need_node T) (hr.mono (by decide)) T.B_Wood_need_node .nil psP (pa_cons (pv 1) pa_nil)))
    (pss_cons (ps_set (i := 2) sc_Wood_children.nd rfl (.inl rfl) (pe_lst pa_nil))
    (pss_cons (ps_set (i := 3) sc_Wood_children.nd rfl (.inl rfl) (pe_op op_add (pv 1) pe_int))
    (pss_cons (ps_if (pt_cmpR op_eq (pe_meth (dvs := []) (pe_fldK (K := K) rfl (pv 0) (by rfl)) T.k_Row T.M_Row_bit (ok_Row_bit T) (hr.mono (by decide)) T.B_Row_bit .nil psP (pa_cons (pv 3) pa_nil)) pe_int (nomark _))
    (pss_one (ps_set (i := 3) sc_Wood_children.nd rfl (.inl rfl) pe_non)) pss_nil)
    (pss_cons (ps_while (passes_of rfl) (pt_cmpR op_notN (pv 3) pe_non (nomark _))
    (pss_cons (ps_expr (pe_bmK (K := K) rfl F.plainAttrs_list F.slot_list_append F.type_list_append mt_append (pv 2) (pa_cons (pv 3) pa_nil) (by rfl) (by rfl) (by rfl) (by rfl) (by rfl)))
    (pss_one (ps_set (i := 3) sc_Wood_children.nd rfl (.inl rfl) (pe_meth (dvs := []) (pv 0) T.k_Wood T.M_Wood_next_child (ok_Wood_next_child T) (hr.mono (by decide)) T.B_Wood_next_child .nil psP (pa_cons (pv 3) pa_nil))))))
    (pss_one (ps_ret (pv 2)))))))), ?_⟩
  refine ⟨_, rfl, u, _, _, rfl, ew, rfl, _, rfl, u, l, p, rfl, hw, fun j ej hj H1 x1 => ?_, fun h H1 x1 => q2 h H1 x1⟩
  subst ej
  refine ⟨by decide, fun a na => ?_⟩
  have nwa : Nw H a := x1.nw (.of na)
  generalize hH : upd H1 a _ = H2
  have x2 := x1.trans (newE hH na)
  have ea := atE hH
  clear hH na
  have hw2 := hw.xt x2
  have ⟨_, _, r, dx, n, ew, er⟩ := hw2
  have hn := next_bit W hj
  obtain ⟨f1, f2⟩ := first_child W hj
  have f0 : fr (isCh l j) (j + 1) = [] := by
    rw [← List.nil_append (fr (isCh l j) (j + 1))]
    rw [fr_skip (a := 0) (Nat.zero_le _) fun i _ hi => ?_]
    · rfl
    · rw [← Bool.not_eq_true]
      exact fun z => by have := child_lt z; omega
  refine ⟨_, rfl, _, _, rfl, rfl, ?_⟩
  show gName 3 (V.int ((j : Int) + 1)) _ _ _
  rw [show ((j : Int) + 1) = ((j + 1 : Nat) : Int) by omega]
  -- the loop
  have fl : fr (isCh l j) l.length = below l j := rfl
  obtain ⟨Wh, eW⟩ : ∃ Wh : Nat → L2.St → Hp → Prop, Wh = fun m σ H' => ∃ o : Option Nat, Xt (tK K) H H' ∧ (∀ c, o = some c → isCh l j c = true) ∧ H' a = some (.lst ((fr (isCh l j) (o.getD l.length)).map fun i : Nat => .int i)) ∧ m = (o.elim 0 fun c => l.length - c) ∧ σ = [some (.ref u), some (.int j), some (.ref a), some (on o)] := ⟨_, rfl⟩
  refine (fun body => ⟨_, rfl, u, _, dx, _, _, rfl, ew, T.k_Wood, T.n_Wood_row, rfl, r, _, _, rfl, er.2.choose_spec, rfl, _, rfl, r, l, n, _, rfl, er, fun i b ei hb H3 x3 r3 => ⟨rfl, _, rfl, ite2 (fun h1 => ⟨Wh, ⟨0, ?_⟩, body⟩) (fun h1 => ⟨Wh, ⟨l.length - (j + 1), ?_⟩, body⟩)⟩, fun h => absurd h (by omega)⟩) ?_
  · intro m σ H' hW
    rw [eW] at hW
    obtain ⟨o, xa, hch, eo, rfl, rfl⟩ := hW
    cases o with
    | none => exact ⟨_, rfl, rfl, _, rfl, iteF ⟨_, rfl, q1 j rfl hj H' a xa nwa eo⟩⟩
    | some c =>
      have hc := hch c rfl
      have hcl := len_of (isCh_iff.mp hc).1
      have hE := ends_en W (isCh_iff.mp hc).1
      refine ⟨_, rfl, rfl, _, rfl, iteT ⟨fun σ' H'' => ∃ m', m' < l.length - c ∧ Wh m' σ' H'', fun _ _ h => h, ?_⟩⟩
      refine ⟨_, rfl, .inl ⟨rfl, _, SqL.of eo⟩, _, rfl, a, _, _, rfl, rfl, eo, ?_, ?_⟩
      · rw [List.length_map]
        have : (fr (isCh l j) c).length ≤ c := fr_le
        exact Nat.lt_of_le_of_lt (show _ ≤ 2000 from by show (fr (isCh l j) c).length ≤ 2000; omega) (by decide)
      generalize hH : upd H' a _ = Hb
      have xb : Xt (tK K) H Hb := by rw [← hH]; exact xa.mut nwa eo
      have eb := atE hH
      clear hH
      have eb : Hb a = some (.lst ((fr (isCh l j) (c + 1)).map fun i : Nat => .int i)) := by
        rw [eb, fr_succ, if_pos hc, List.map_append]
        rfl
      have hwb := hw.xt xb
      have ⟨_, _, r, dx, n, ew, er⟩ := hwb
      refine ⟨_, rfl, u, _, _, rfl, ew, rfl, _, rfl, u, l, c, rfl, hwb, fun j' ej _ Hc xc => ?_, fun h => absurd (isCh_iff.mp hc).1 (h c rfl)⟩
      obtain rfl : c = j' := by omega
      rw [eW]
      by_cases hb : l[en l c + 1]? = some true
      · have e2 : nx l c = some (en l c + 1) := if_pos hb
        refine ⟨l.length - (en l c + 1), by have := len_of hb; have := hE.lt; omega, some (en l c + 1), xb.trans xc, fun d z => ?_, ?_, rfl, by show [some (V.ref u), some (V.int j), some (V.ref a), some (on (nx l c))] = _; rw [e2]⟩
        · rw [← Option.some.inj z]
          exact next_child W hc hb
        · rw [xc.lst eb, show (Option.getD (some (en l c + 1)) l.length) = en l c + 1 from rfl, fr_skip (a := c + 1) (b := en l c + 1) (by have := hE.lt; omega) fun i h1 h2 => no_child2 W hc (by omega) (by omega)]
      · have e2 : nx l c = none := if_neg hb
        refine ⟨0, by omega, none, xb.trans xc, (fun d z => nomatch z), ?_, rfl, by show [some (V.ref u), some (V.int j), some (V.ref a), some (on (nx l c))] = _; rw [e2]⟩
        rw [xc.lst eb, show (Option.getD none l.length) = l.length from rfl, fr_skip (a := c + 1) (b := l.length) (by omega) fun i h1 h2 => ?_]
        rcases Nat.lt_or_ge (en l c) i with h3 | h3
        · exact last_child W hc hb h3
        · exact no_child2 W hc (by omega) h3
  · obtain rfl : j + 1 = i := by omega
    have h1 := V.int.inj (of_decide_eq_true h1)
    cases b
    · rw [eW]
      refine ⟨none, x2.trans x3, (fun c z => nomatch z), ?_, rfl, rfl⟩
      rw [x3.lst ea, show (Option.getD none l.length) = l.length from rfl, fr_skip (a := 0) (Nat.zero_le _) fun i _ _ => f2 hb i]
      rfl
    · cases h1
  · obtain rfl : j + 1 = i := by omega
    cases b
    · exact absurd rfl h1
    · rw [eW]
      refine ⟨some (j + 1), x2.trans x3, fun c z => ?_, ?_, rfl, rfl⟩
      · rw [← Option.some.inj z]
        exact f1 hb
      · rw [x3.lst ea, show (Option.getD (some (j + 1)) l.length) = j + 1 from rfl, f0]
        rfl
theorem ok_Wood_degree (T : Tx K mg) : OkN P w K mg base ("Wood", some "degree") 11 ["self", "node"] (spNode K fun l j => .int ((below l j).length : Nat)) := by
  refine T.F_Wood_degree.ok sc_Wood_degree (fun vs H Q E h => node_len h) (fun cdv A outer s H vs Q E hr h => ?_)
  obtain ⟨u, l, p, rfl, hw, q1, q2⟩ := h
  have ⟨W, hl, r, dx, n, ew, er⟩ := hw
  refine ⟨_, (pss_one (ps_ret (pe_callB (call_len_seqK (K := K) rfl) (by rfl) T.z_len b_len (pa_cons (pe_meth (dvs := []) (pv 0) T.k_Wood T.M_Wood_children (ok_Wood_children T) (hr.mono (by decide)) T.B_Wood_children .nil psP (pa_cons (pv 1) pa_nil)) pa_nil)))), ?_⟩
  refine ⟨_, rfl, u, _, _, rfl, ew, rfl, _, rfl, u, l, p, rfl, hw, fun j ej hj H1 a x1 na ea => ⟨_, _, rfl, .inl (SqL.of ea), ?_⟩, fun h H1 x1 => q2 h H1 x1⟩
  rw [List.length_map]
  exact q1 j ej hj H1 x1
def spChild (K : PySem.W.Frag) : Sp := fun vs H Q E => ∃ (u : Addr) (l : List Bool) (p s : Int), vs = [.ref u, .int p, .int s] ∧ WoodAt K H u l ∧ (∀ j k c : Nat, p = j → s = k → l[j]? = some true → (below l j)[k]? = some c → ∀ H', Xt (tK K) H H' → Q (.int c) H') ∧
  (((∀ j : Nat, p = j → ¬ l[j]? = some true) ∨ s < 0 ∨ ∃ j : Nat, p = j ∧ ((below l j).length : Int) ≤ s) → ∀ H', Xt (tK K) H H' → E (.ref (He.ga K "BadPlace")) none H')
theorem ok_Wood_child (T : Tx K mg) : OkN P w K mg base ("Wood", some "child") 11 ["self", "node", "number"] (spChild K) := by
  refine T.F_Wood_child.ok sc_Wood_child (fun vs H Q E h => ?_) (fun cdv A outer s H vs Q E hr h => ?_)
  · obtain ⟨u, l, p, s, rfl, _⟩ := h
    rfl
  · obtain ⟨u, l, p, st, rfl, hw, q1, q2⟩ := h
    have ⟨W, hl, r, dx, n, ew, er⟩ := hw
    refine ⟨_, (pss_cons (ps_set (i := 3) sc_Wood_child.nd rfl (.inl rfl) (pe_meth (dvs := []) (pv 0) T.k_Wood T.M_Wood_children (ok_Wood_children T) (hr.mono (by decide)) T.B_Wood_children .nil psP (pa_cons (pv 1) pa_nil)))
    (pss_cons (ps_expr (pe_meth (dvs := []) (pv 0) T.k_Wood T.M_Wood_need (ok_Wood_need T) (hr.mono (by decide)) T.B_Wood_need .nil psP (pa_cons (pe_chain op_le op_lt pe_int (pv 2) (pe_callB (call_len_seqK (K := K) rfl) (by rfl) T.z_len b_len (pa_cons (pv 3) pa_nil))) pa_nil)))
    (pss_one (ps_ret (pe_ix (ix_listK (K := K) rfl) (pv 3) (pv 2) (fun _ _ => rfl)))))), ?_⟩
    refine ⟨_, rfl, u, _, _, rfl, ew, rfl, _, rfl, u, l, p, rfl, hw, fun j ej hj H1 a x1 na ea => ?_, fun h H1 x1 => q2 (.inl h) H1 x1⟩
    subst ej
    have hw1 := hw.xt x1
    have ⟨_, _, r, dx, n, ew, er⟩ := hw1
    refine ⟨_, rfl, u, _, _, rfl, ew, rfl, _, rfl, _, _, rfl, rfl, _, rfl, ite2 (fun h0 => ?_) (fun h0 => ?_)⟩
    · have h0 := of_decide_eq_true h0
      obtain ⟨k, rfl⟩ : ∃ k : Nat, st = k := ⟨st.toNat, by omega⟩
      refine ⟨_, rfl, _, _, rfl, .inl (SqL.of ea), _, _, rfl, rfl, u, _, rfl, fun h1 => ?_, fun h1 => q2 (.inr (.inr ⟨j, rfl, ?_⟩)) H1 x1⟩
      · have h1 := of_decide_eq_true h1
        rw [List.length_map] at h1
        have hk : k < (below l j).length := by omega
        have hk2 : (below l j)[k]? = some (below l j)[k] := List.getElem?_eq_getElem hk
        refine ⟨_, rfl, _, rfl, a, _, (k : Int), .int ((below l j)[k] : Nat), rfl, rfl, SqL.of ea, atI_nat ?_, q1 j k _ rfl rfl hj hk2 H1 x1⟩
        rw [List.getElem?_map, hk2]
        rfl
      · have h1 := of_decide_eq_false h1
        rw [List.length_map] at h1
        omega
    · simp only [decide_eq_true_eq] at h0
      exact ⟨u, false, rfl, fun z => (by cases z), fun _ => q2 (.inr (.inl (by omega))) H1 x1⟩
theorem ok_Wood_which (T : Tx K mg) : OkN P w K mg base ("Wood", some "which") 11 ["self", "node"] (spNode K fun l j => on (wh l j)) := by
  refine T.F_Wood_which.ok sc_Wood_which (fun vs H Q E h => node_len h) (fun cdv A outer s H vs Q E hr h => ?_)
  obtain ⟨u, l, p, rfl, hw, q1, q2⟩ := h
  have ⟨W, hl, r, dx, n, ew, er⟩ := hw
  refine ⟨_, (pss_cons (ps_set (i := 2) sc_Wood_which.nd rfl (.inl rfl) (pe_meth (dvs := []) (pv 0) T.k_Wood T.M_Wood_parent (ok_Wood_parent T) (hr.mono (by decide)) T.B_Wood_parent .nil psP (pa_cons (pv 1) pa_nil)))
    (pss_cons (ps_if (pt_cmpR op_isN (pv 2) pe_non (nomark _))
    (pss_one (ps_ret pe_non)) pss_nil)
    (pss_one (ps_ret (pe_bmK (K := K) rfl F.plainAttrs_list F.slot_list_index F.type_list_index (mt_indexK (K := K) rfl) (pe_meth (dvs := []) (pv 0) T.k_Wood T.M_Wood_children (ok_Wood_children T) (hr.mono (by decide)) T.B_Wood_children .nil psP (pa_cons (pv 2) pa_nil)) (pa_cons (pv 1) pa_nil) (by rfl) (by rfl) (by rfl) (by rfl) (by rfl)))))), ?_⟩
  refine ⟨_, rfl, u, _, _, rfl, ew, rfl, _, rfl, u, l, p, rfl, hw, fun j ej hj H1 x1 => ?_, fun h H1 x1 => q2 h H1 x1⟩
  subst ej
  have q1 : ∀ H', Xt (tK K) H H' → Q (on (wh l j)) H' := q1 j rfl hj
  unfold wh at q1
  have hw1 := hw.xt x1
  have ⟨_, _, r, dx, n, ew, er⟩ := hw1
  show gName 2 (on (up l j)) _ _ _
  cases hu : up l j with
  | none =>
    rw [hu] at q1
    exact ⟨_, rfl, rfl, _, rfl, iteT (q1 H1 x1)⟩
  | some b =>
    rw [hu] at q1
    have hc : isCh l b j = true := isCh_iff.mpr ⟨hj, hu⟩
    refine ⟨_, rfl, rfl, _, rfl, iteF ⟨_, rfl, u, _, _, rfl, ew, rfl, _, rfl, u, l, b, rfl, hw1, fun j' ej hb H2 a x2 na ea => ?_, fun h => absurd (up_one hu) (h b rfl)⟩⟩
    obtain rfl : b = j' := by omega
    refine ⟨.inl ⟨rfl, _, SqL.of ea⟩, _, rfl, a, _, .int j, (fr (isCh l b) j).length, .int j, rfl, rfl, SqL.of ea, rfl, flat_nats _, ?_, ?_, fun m z hm hz => ?_, q1 H2 (x1.trans x2)⟩
    · rw [List.getElem?_map, below_at hc]
      rfl
    · show ((j : Int) == (j : Int)) = true
      exact beq_self_eq_true _
    · rw [List.getElem?_map] at hz
      obtain ⟨c, hc2, rfl⟩ := Option.map_eq_some_iff.mp hz
      show ((c : Int) == (j : Int)) = false
      rw [beq_eq_false_iff_ne]
      intro z
      obtain rfl : c = j := by omega
      have := nodup_at below_nd hc2 (below_at hc)
      omega
theorem ok_Wood_last_child (T : Tx K mg) : OkN P w K mg base ("Wood", some "last_child") 12 ["self", "node"] (spNode K fun l j => on (lch l j)) := by
  refine T.F_Wood_last_child.ok sc_Wood_last_child (fun vs H Q E h => node_len h) (fun cdv A outer s H vs Q E hr h => ?_)
  obtain ⟨u, l, p, rfl, hw, q1, q2⟩ := h
  have ⟨W, hl, r, dx, n, ew, er⟩ := hw
  refine ⟨_, (pss_cons (ps_set (i := 2) sc_Wood_last_child.nd rfl (.inl rfl) (pe_meth (dvs := []) (pv 0) T.k_Wood T.M_Wood_which (ok_Wood_which T) (hr.mono (by decide)) T.B_Wood_which .nil psP (pa_cons (pv 1) pa_nil)))
    (pss_cons (ps_if (PW.pt (pw_or (pt_cmpR op_isN (pv 2) pe_non (nomark _)) (pw_or1 (pt_cmpR op_eq (pv 2) pe_int (nomark _)))))
    (pss_one (ps_ret pe_non)) pss_nil)
    (pss_one (ps_ret (pe_meth (dvs := []) (pv 0) T.k_Wood T.M_Wood_child (ok_Wood_child T) (hr.mono (by decide)) T.B_Wood_child .nil psP (pa_cons (pe_meth (dvs := []) (pv 0) T.k_Wood T.M_Wood_parent (ok_Wood_parent T) (hr.mono (by decide)) T.B_Wood_parent .nil psP (pa_cons (pv 1) pa_nil)) (pa_cons (pe_op op_sub (pv 2) pe_int) pa_nil))))))), ?_⟩
  refine ⟨_, rfl, u, _, _, rfl, ew, rfl, _, rfl, u, l, p, rfl, hw, fun j ej hj H1 x1 => ?_, fun h H1 x1 => q2 h H1 x1⟩
  subst ej
  have q1 : ∀ H', Xt (tK K) H H' → Q (on (lch l j)) H' := q1 j rfl hj
  unfold lch at q1
  have hw1 := hw.xt x1
  have ⟨_, _, r, dx, n, ew, er⟩ := hw1
  show gName 2 (on (wh l j)) _ _ _
  cases hu : up l j with
  | none =>
    rw [hu] at q1
    have e : wh l j = none := by unfold wh; rw [hu]; rfl
    rw [e]
    exact ⟨_, rfl, rfl, _, rfl, iteT (iteT (q1 H1 x1))⟩
  | some b =>
    rw [hu] at q1
    have q1 : ∀ H', Xt (tK K) H H' → Q (on (if (fr (isCh l b) j).length = 0 then none else (below l b)[(fr (isCh l b) j).length - 1]?)) H' := q1
    have hc : isCh l b j = true := isCh_iff.mpr ⟨hj, hu⟩
    have e : wh l j = some (fr (isCh l b) j).length := by unfold wh; rw [hu]; rfl
    rw [e]
    have hk := below_at hc
    generalize (fr (isCh l b) j).length = k at q1 hk ⊢
    refine ⟨_, rfl, rfl, _, rfl, iteF ⟨_, rfl, rfl, _, rfl, ite2 (fun h => ?_) (fun h => ?_)⟩⟩
    · have h := V.int.inj (of_decide_eq_true h)
      obtain rfl : k = 0 := by omega
      exact q1 H1 x1
    · have h : k ≠ 0 := fun z => h (decide_eq_true (by rw [z]; rfl))
      rw [if_neg h] at q1
      have hk1 : k - 1 < (below l b).length := by have := (List.getElem?_eq_some_iff.mp hk).1; omega
      rw [List.getElem?_eq_getElem hk1] at q1
      refine ⟨_, rfl, u, _, _, rfl, ew, rfl, _, rfl, u, _, _, rfl, ew, rfl, _, rfl, u, l, j, rfl, hw1, fun j' ej _ H2 x2 => ?_, fun h => absurd hj (h j rfl)⟩
      obtain rfl : j = j' := by omega
      refine ⟨_, rfl, _, _, rfl, rfl, u, l, b, (k : Int) - 1, ?_, hw1.xt x2, fun j' k' c ej ek _ hcc H3 x3 => ?_, fun h => ?_⟩
      · show [V.ref u, on (up l j), V.int ((k : Int) - 1)] = _
        rw [hu]
        rfl
      · obtain rfl : b = j' := by omega
        obtain rfl : k' = k - 1 := by omega
        rw [List.getElem?_eq_getElem hk1] at hcc
        have := q1 H3 (x1.trans (x2.trans x3))
        rw [Option.some.inj hcc] at this
        exact this
      · exfalso
        rcases h with h | h | ⟨j', ej, h⟩
        · exact h b rfl (up_one hu)
        · omega
        · obtain rfl : b = j' := by omega
          omega
def spTwo (K : PySem.W.Frag) (f : List Bool → Nat → Nat → V) : Sp := fun vs H Q E => ∃ (u : Addr) (l : List Bool) (p s : Int), vs = [.ref u, .int p, .int s] ∧ WoodAt K H u l ∧ (∀ i j : Nat, p = i → s = j → l[i]? = some true → l[j]? = some true → ∀ H', Xt (tK K) H H' → Q (f l i j) H') ∧
  (((∀ j : Nat, p = j → ¬ l[j]? = some true) ∨ (∀ j : Nat, s = j → ¬ l[j]? = some true)) → ∀ H', Xt (tK K) H H' → E (.ref (He.ga K "BadPlace")) none H')
theorem two_len {f : List Bool → Nat → Nat → V} {vs : List V} {H : Hp} {Q : VK} {E : XK} (h : spTwo K f vs H Q E) : vs.length = 3 := by
  obtain ⟨u, l, p, s, rfl, _⟩ := h
  rfl
theorem ok_Wood_is_above (T : Tx K mg) : OkN P w K mg base ("Wood", some "is_above") 9 ["self", "one", "other"] (spTwo K fun l i j => .bl (isAb l i j)) := by
  refine T.F_Wood_is_above.ok sc_Wood_is_above (fun vs H Q E h => two_len h) (fun cdv A outer s H vs Q E hr h => ?_)
  obtain ⟨u, l, p, p2, rfl, hw, q1, q2⟩ := h
  have ⟨W, hl, r, dx, n, ew, er⟩ := hw
  refine ⟨_, (pss_cons (ps_expr (pe_meth (dvs := []) (pv 0) T.k_Wood T.M_Wood_need_node (ok_Wood_need_node T) (hr.mono (by decide)) T.B_Wood_need_node .nil psP (pa_cons (pv 1) pa_nil)))
    (pss_cons (ps_expr (pe_meth (dvs := []) (pv 0) T.k_Wood T.M_Wood_need_node (ok_Wood_need_node T) (hr.mono (by decide)) T.B_Wood_need_node .nil psP (pa_cons (pv 2) pa_nil)))
    (pss_one (ps_ret (pe_chain op_le op_le (pv 1) (pv 2) (pe_meth (dvs := []) (pv 0) T.k_Wood T.M_Wood_end (ok_Wood_end T) (hr.mono (by decide)) T.B_Wood_end .nil psP (pa_cons (pv 1) pa_nil))))))), ?_⟩
  refine ⟨_, rfl, u, _, _, rfl, ew, rfl, _, rfl, u, l, p, rfl, hw, fun i ei hi H1 x1 => ?_, fun h H1 x1 => q2 (.inl h) H1 x1⟩
  have hw1 := hw.xt x1
  have ⟨_, _, r, dx, n, ew, er⟩ := hw1
  refine ⟨_, rfl, u, _, _, rfl, ew, rfl, _, rfl, u, l, p2, rfl, hw1, fun j ej hj H2 x2 => ?_, fun h H2 x2 => q2 (.inr h) H2 (x1.trans x2)⟩
  subst ei ej
  have q1 : ∀ H', Xt (tK K) H H' → Q (.bl (isAb l i j)) H' := q1 i j rfl rfl hi hj
  have hw2 := hw1.xt x2
  have ⟨_, _, r, dx, n, ew, er⟩ := hw2
  refine ⟨_, rfl, _, rfl, _, _, rfl, rfl, _, rfl, ite2 (fun h0 => ?_) (fun h0 => ?_)⟩
  · have h0 := of_decide_eq_true h0
    refine ⟨_, rfl, u, _, _, rfl, ew, rfl, _, rfl, u, l, i, rfl, hw2, fun j' ej _ H3 x3 => ⟨_, _, rfl, rfl, ?_⟩, fun h => absurd hi (h i rfl)⟩
    obtain rfl : i = j' := by omega
    have e : isAb l i j = decide ((j : Int) ≤ ((en l i : Nat) : Int)) := by
      unfold isAb
      rw [Bool.eq_iff_iff, decide_eq_true_eq, decide_eq_true_eq]
      omega
    rw [e] at q1
    exact q1 H3 (x1.trans (x2.trans x3))
  · simp only [decide_eq_true_eq] at h0
    have e : isAb l i j = false := decide_eq_false (by omega)
    rw [e] at q1
    exact q1 H2 (x1.trans x2)
theorem ok_Wood_above_both (T : Tx K mg) : OkN P w K mg base ("Wood", some "above_both") 10 ["self", "one", "other"] (spTwo K fun l i j => .int (ab2 l i j)) := by
  refine T.F_Wood_above_both.ok sc_Wood_above_both (fun vs H Q E h => two_len h) (fun cdv A outer s H vs Q E hr h => ?_)
  obtain ⟨u, l, p, p2, rfl, hw, q1, q2⟩ := h
  have ⟨W, hl, r, dx, n, ew, er⟩ := hw
  refine ⟨_, (pss_cons (ps_expr (pe_meth (dvs := []) (pv 0) T.k_Wood T.M_Wood_need_node (ok_Wood_need_node T) (hr.mono (by decide)) T.B_Wood_need_node .nil psP (pa_cons (pv 1) pa_nil)))
    (pss_cons (ps_expr (pe_meth (dvs := []) (pv 0) T.k_Wood T.M_Wood_need_node (ok_Wood_need_node T) (hr.mono (by decide)) T.B_Wood_need_node .nil psP (pa_cons (pv 2) pa_nil)))
    (pss_cons (ps_set (i := 3) sc_Wood_above_both.nd rfl (.inl rfl) (pv 1))
    (pss_cons (ps_while (passes_of rfl) (pt_not (pt_val (pe_meth (dvs := []) (pv 0) T.k_Wood T.M_Wood_is_above (ok_Wood_is_above T) (hr.mono (by decide)) T.B_Wood_is_above .nil psP (pa_cons (pv 3) (pa_cons (pv 2) pa_nil)))))
    (pss_one (ps_set (i := 3) sc_Wood_above_both.nd rfl (.inl rfl) (pe_meth (dvs := []) (pv 0) T.k_Wood T.M_Wood_parent (ok_Wood_parent T) (hr.mono (by decide)) T.B_Wood_parent .nil psP (pa_cons (pv 3) pa_nil)))))
    (pss_one (ps_ret (pv 3))))))), ?_⟩
  refine ⟨_, rfl, u, _, _, rfl, ew, rfl, _, rfl, u, l, p, rfl, hw, fun i ei hi H1 x1 => ?_, fun h H1 x1 => q2 (.inl h) H1 x1⟩
  have hw1 := hw.xt x1
  have ⟨_, _, r, dx, n, ew, er⟩ := hw1
  refine ⟨_, rfl, u, _, _, rfl, ew, rfl, _, rfl, u, l, p2, rfl, hw1, fun j ej hj H2 x2 => ?_, fun h H2 x2 => q2 (.inr h) H2 (x1.trans x2)⟩
  subst ei ej
  have q1 : ∀ H', Xt (tK K) H H' → Q (.int (ab2 l i j : Nat)) H' := q1 i j rfl rfl hi hj
  refine ⟨_, rfl, fun m σ H' => l[m]? = some true ∧ Xt (tK K) H H' ∧ (ways l i).find? (fun c => isAb l c j) = (ways l m).find? (fun c => isAb l c j) ∧ σ = [some (.ref u), some (.int i), some (.int j), some (.int m)], ⟨i, hi, x1.trans x2, rfl, rfl⟩, fun m σ H' hW => ?_⟩
  obtain ⟨hm, xa, hf, rfl⟩ := hW
  have hwa := hw.xt xa
  have ⟨_, _, r, dx, n, ew, er⟩ := hwa
  refine ⟨_, rfl, u, _, _, rfl, ew, rfl, _, rfl, _, rfl, u, l, m, j, rfl, hwa, fun m' j' em ej _ _ H3 x3 => ?_, fun h => absurd h (by rintro (h | h); exact h m rfl hm; exact h j rfl hj)⟩
  obtain rfl : m = m' := by omega
  obtain rfl : j = j' := by omega
  have hwb := hwa.xt x3
  have xb := xa.trans x3
  cases hab : isAb l m j with
  | true =>
    refine ⟨true, by show V.bl (isAb l m j) = _; rw [hab], iteF ⟨_, rfl, ?_⟩⟩
    have e : ab2 l i j = m := by
      unfold ab2
      rw [hf]
      unfold ways
      rw [List.find?_cons_of_pos (p := fun c => isAb l c j) hab]
      rfl
    rw [e] at q1
    exact q1 H3 xb
  | false =>
    refine ⟨false, by show V.bl (isAb l m j) = _; rw [hab], iteT ⟨fun σ' H'' => ∃ m', m' < m ∧ l[m']? = some true ∧ Xt (tK K) H H'' ∧ (ways l i).find? (fun c => isAb l c j) = (ways l m').find? (fun c => isAb l c j) ∧ σ' = [some (.ref u), some (.int i), some (.int j), some (.int m')], fun _ _ h => h, ?_⟩⟩
    have ⟨_, _, r, dx, n, ew, er⟩ := hwb
    refine ⟨_, rfl, u, _, _, rfl, ew, rfl, _, rfl, u, l, m, rfl, hwb, fun m' em _ H4 x4 => ?_, fun h => absurd hm (h m rfl)⟩
    obtain rfl : m = m' := by omega
    cases hu : up l m with
    | none =>
      rw [up_none W hm hu, root_all W hj] at hab
      cases hab
    | some b =>
      refine ⟨b, (stk_mem (up_mem hu)).1, up_one hu, xb.trans x4, ?_, ?_⟩
      · rw [hf, ways_up hu, List.find?_cons_of_neg (by rw [hab]; decide)]
      · show [some (V.ref u), some (.int i), some (.int j), some (on (up l m))] = _
        rw [hu]
        rfl
theorem ok_Wood_level_next (T : Tx K mg) : OkN P w K mg base ("Wood", some "level_next") 8 ["self", "node"] (spNode K fun l j => on (ln l j)) := by
  refine T.F_Wood_level_next.ok sc_Wood_level_next (fun vs H Q E h => node_len h) (fun cdv A outer s H vs Q E hr h => ?_)
  obtain ⟨u, l, p, rfl, hw, q1, q2⟩ := h
  have ⟨W, hl, r, dx, n, ew, er⟩ := hw
  refine ⟨_, (pss_cons (ps_set (i := 2) sc_Wood_level_next.nd rfl (.inl rfl) (pe_meth (dvs := []) (pv 0) T.k_Wood T.M_Wood_depth (ok_Wood_depth T) (hr.mono (by decide)) T.B_Wood_depth .nil psP (pa_cons (pv 1) pa_nil)))
    (pss_cons (ps_set (i := 3) sc_Wood_level_next.nd rfl (.inl rfl) (pe_op op_add (pe_meth (dvs := []) (pv 0) T.k_Wood T.M_Wood_number (ok_Wood_number T) (hr.mono (by decide)) T.B_Wood_number .nil psP (pa_cons (pv 1) pa_nil)) pe_int))
    (pss_cons (ps_while (passes_of rfl) (pt_cmpR op_lt (pv 3) (pe_meth0 (dvs := []) (pv 0) T.k_Wood T.M_Wood_size (ok_Wood_size T) (hr.mono (by decide)) T.B_Wood_size .nil psP) (nomark _))
    (pss_cons (ps_set (i := 4) sc_Wood_level_next.nd rfl (.inl rfl) (pe_meth (dvs := []) (pe_fldK (K := K) rfl (pv 0) (by rfl)) T.k_Row T.M_Row_one_at (ok_Row_one_at T) (hr.mono (by decide)) T.B_Row_one_at .nil psP (pa_cons (pv 3) pa_nil)))
    (pss_cons (ps_if (pt_cmpR op_eq (pe_meth (dvs := []) (pv 0) T.k_Wood T.M_Wood_deep (ok_Wood_deep T) (hr.mono (by decide)) T.B_Wood_deep .nil psP (pa_cons (pv 4) pa_nil)) (pv 2) (nomark _))
    (pss_one (ps_ret (pv 4))) pss_nil)
    (pss_one (ps_set (i := 3) sc_Wood_level_next.nd rfl (.inl rfl) (pe_op op_add (pv 3) pe_int))))))
    (pss_one (ps_ret pe_non))))), ?_⟩
  refine ⟨_, rfl, u, _, _, rfl, ew, rfl, _, rfl, u, l, p, rfl, hw, fun j ej hj H1 x1 => ?_, fun h H1 x1 => q2 h H1 x1⟩
  subst ej
  have q1 : ∀ H', Xt (tK K) H H' → Q (on (ln l j)) H' := q1 j rfl hj
  have hw1 := hw.xt x1
  have ⟨_, _, r, dx, n, ew, er⟩ := hw1
  refine ⟨_, rfl, u, _, _, rfl, ew, rfl, _, rfl, u, l, j, rfl, hw1, fun j' ej _ H2 x2 => ?_, fun h => absurd hj (h j rfl)⟩
  obtain rfl : j = j' := by omega
  have hsz : l.length / 2 = (pos true l).length := by have := W.len; rw [pos_len]; omega
  refine ⟨_, _, rfl, rfl, fun m σ H' => ∃ (k : Nat) (t : Option V), k + m = (pos true l).length ∧ cn true l j < k ∧ Xt (tK K) H H' ∧ (∀ i d, cn true l j < i → i < k → (pos true l)[i]? = some d → dq l d ≠ dq l j) ∧ σ = [some (.ref u), some (.int j), some (.int (dq l j)), some (.int k), t], ⟨(pos true l).length - (cn true l j + 1), cn true l j + 1, none, ?_, Nat.lt_succ_self _, x1.trans x2, fun i d h1 h2 => by omega, rfl⟩, fun m σ H' hW => ?_⟩
  · have : cn true l j < cn true l l.length := cn_lt hj (len_of hj)
    rw [pos_len]
    omega
  obtain ⟨k, t, hkm, hk, xa, hno, rfl⟩ := hW
  have hwa := hw.xt xa
  have ⟨_, _, r, dx, n, ew, er⟩ := hwa
  refine ⟨_, rfl, _, rfl, u, _, _, rfl, ew, rfl, u, l, rfl, hwa, _, _, rfl, rfl, _, rfl, ite2 (fun h0 => ?_) (fun h0 => ?_)⟩
  · have h0 := of_decide_eq_true h0
    have hk2 : k < (pos true l).length := by omega
    have hc : (pos true l)[k]? = some (pos true l)[k] := List.getElem?_eq_getElem hk2
    generalize (pos true l)[k] = c at hc
    have hc1 := (pos_at hc).1
    refine ⟨fun σ' H'' => ∃ m', m' < m ∧ ∃ (k : Nat) (t : Option V), k + m' = (pos true l).length ∧ cn true l j < k ∧ Xt (tK K) H H'' ∧ (∀ i d, cn true l j < i → i < k → (pos true l)[i]? = some d → dq l d ≠ dq l j) ∧ σ' = [some (.ref u), some (.int j), some (.int (dq l j)), some (.int k), t], fun _ _ h => h, ?_⟩
    refine ⟨_, rfl, u, _, dx, _, _, rfl, ew, T.k_Wood, T.n_Wood_row, rfl, r, _, _, rfl, er.2.choose_spec, rfl, _, rfl, r, l, n, _, rfl, er, fun k' mm ek H3 x3 r3 _ _ => ?_, fun h => absurd h (by omega)⟩
    obtain rfl : k = k' := by omega
    rw [hc]
    have hwb := hwa.xt x3
    have ⟨_, _, r, dx, n, ew, er⟩ := hwb
    refine ⟨_, rfl, u, _, _, rfl, ew, rfl, _, rfl, u, l, c, rfl, hwb, Nat.le_of_lt (len_of hc1), fun H4 x4 => ?_⟩
    have xd := xa.trans (x3.trans x4)
    refine ⟨_, rfl, rfl, _, rfl, ite2 (fun h1 => ?_) (fun h1 => ?_)⟩
    · have h1 := V.int.inj (of_decide_eq_true h1)
      rw [ln_some hj hc hk h1 hno] at q1
      exact ⟨_, rfl, q1 H4 xd⟩
    · have h1 : dq l c ≠ dq l j := fun z => h1 (decide_eq_true (congrArg V.int z))
      refine ⟨_, rfl, _, _, rfl, rfl, m - 1, by omega, k + 1, _, by omega, by omega, xd, fun i d h2 h3 h4 => ?_, rfl⟩
      by_cases h5 : i = k
      · rw [h5, hc] at h4
        cases h4
        exact h1
      · exact hno i d h2 (by omega) h4
  · simp only [decide_eq_true_eq] at h0
    have e : ln l j = none := by
      unfold ln
      rw [List.find?_eq_none]
      intro c hc
      rw [decide_eq_true_eq]
      rintro ⟨h1, h2⟩
      obtain ⟨i, hi, hic⟩ := List.mem_iff_getElem.mp hc
      have h3 : (pos true l)[i]? = some c := by rw [List.getElem?_eq_getElem hi, hic]
      have h4 := cn_lt hj h1
      rw [(pos_at h3).2] at h4
      exact hno i c h4 (by omega) h3 h2
    rw [e] at q1
    exact q1 H' xa
def spWood (K : PySem.W.Frag) : Sp := fun vs H Q E => ∃ (H0 : Hp) (u dx : Addr) (z : Str), vs = [.ref u, .str z] ∧ Xt (tK K) H0 H ∧ Nw H0 u ∧ H u = some (.ins (He.ga K "Wood") dx []) ∧ z.length ≤ 100000 ∧
  (∀ l, z = sb l → okT l → l.length ≤ 2000 → ∀ H', Xt (tK K) H0 H' → WoodAt K H' u l → Q .non H') ∧ ((∀ l, z = sb l → okT l → 2000 < l.length) → ∀ H', Xt (tK K) H0 H' → E (.ref (He.ga K "BadBits")) none H')
theorem ok_Wood_init (T : Tx K mg) : OkN P w K mg base ("Wood", some "__init__") 5 ["self", "bits"] (spWood K) := by
  refine T.F_Wood_init.ok sc_Wood_init (fun vs H Q E h => ?_) (fun cdv A outer s H vs Q E hr h => ?_)
  · obtain ⟨H0, u, dx, z, rfl, _⟩ := h
    rfl
  · obtain ⟨H0, u, dx, z, rfl, x0, nu, e, hz, q1, q2⟩ := h
    refine ⟨_, (pss_cons (ps_expr (pe_callS (ok_need_tree T) (hr.mono (by decide)) (by rfl) T.g_need_tree T.F_need_tree.kp T.B_need_tree psE (pa_cons (pv 1) pa_nil)))
    (pss_cons (ps_fld (pv 0) (pe_make (dvs := []) T.mk_Row (ok_Row_init T) (hr.mono (by decide)) (by rfl) T.g_Row T.B_Row_init .nil psP (pa_cons (pv 1) pa_nil)) rfl)
    (pss_cons (ps_fld (pv 0) (pe_callS (ok_needs T) (hr.mono (by decide)) (by rfl) T.g_needs T.F_needs.kp T.B_needs psE (pa_cons (pe_callB call_len_str (by rfl) T.z_len b_len (pa_cons (pv 1) pa_nil)) pa_nil)) rfl)
    (pss_cons (ps_set (i := 2) sc_Wood_init.nd rfl (.inl rfl) (pe_lst pa_nil))
    (pss_cons (ps_set (i := 3) sc_Wood_init.nd rfl (.inl rfl) pe_int)
    (pss_cons (ps_for (passes_of rfl) rfl (pi_range1 (by rfl) T.z_range (pa_cons (pe_op op_fdivW (pe_callB call_len_str (by rfl) T.z_len b_len (pa_cons (pv 1) pa_nil)) (pe_glob (v := .int _) (by rfl) T.c_BLOCK.choose_spec ⟨_, rfl⟩)) pa_nil)) (pg_name (i := 4) sc_Wood_init.nd rfl (.inl rfl))
    (pss_cons (ps_set (i := 5) sc_Wood_init.nd rfl (.inl rfl) (pe_callB call_len_str (by rfl) T.z_len b_len (pa_cons (pv 1) pa_nil)))
    (pss_cons (ps_for (passes_of rfl) rfl (pi_str (pe_slice sl_str (pv 1) (po_some (pe_op op_mul (pv 4) (pe_glob (v := .int _) (by rfl) T.c_BLOCK.choose_spec ⟨_, rfl⟩))) (po_some (pe_op op_mul (pe_op op_add (pv 4) pe_int) (pe_glob (v := .int _) (by rfl) T.c_BLOCK.choose_spec ⟨_, rfl⟩))))) (pg_name (i := 6) sc_Wood_init.nd rfl (.inl rfl))
    (pss_cons (ps_set (i := 3) sc_Wood_init.nd rfl (.inl rfl) (pe_op op_sub (pe_op op_add (pv 3) (pe_op op_mul pe_int (pe_callTy call_int_str (by rfl) T.z_int b_int (pa_cons (pv 6) pa_nil)))) pe_int))
    (pss_one (ps_set (i := 5) sc_Wood_init.nd rfl (.inl rfl) (pe_callB (call_min2 rfl) (by rfl) T.z_min b_min (pa_cons (pv 5) (pa_cons (pv 3) pa_nil)))))))
    (pss_one (ps_expr (pe_bmK (K := K) rfl F.plainAttrs_list F.slot_list_append F.type_list_append mt_append (pv 2) (pa_cons (pv 5) pa_nil) (by rfl) (by rfl) (by rfl) (by rfl) (by rfl)))))))
    (pss_one (ps_fld (pv 0) (pe_callS (ok_pack T) (hr.mono (by decide)) (by rfl) T.g_pack T.F_pack.kp T.B_pack psE (pa_cons (pv 2) (pa_cons (pe_fldK (K := K) rfl (pv 0) (by rfl)) pa_nil))) rfl)))))))), ?_⟩
    refine ⟨_, rfl, z, rfl, hz, fun l el W hl H1 x1 => ?_, fun hb H1 x1 => q2 hb H1 (x0.trans x1.up)⟩
    subst el
    have q1 := q1 l rfl W hl
    have hzl := wood_sz hl
    have e1 := x1.same e fun ps z => by cases z
    have x1 := x0.trans x1.up
    refine ⟨_, rfl, fun r dr hrn hdn hne => ?_⟩
    have xm : Xt (tK K) H1 (upd (upd H1 dr (.own r)) r (.ins (He.ga K "Row") dr [])) := (Xt.new hdn).trans (.new (by rw [upd_ne (Ne.symm hne)]; exact hrn))
    refine ⟨H1, r, dr, sb l, rfl, xm, .of hrn, upd_same .., hz, fun l' el _ H2 x2 er => ⟨rfl, ?_⟩, fun h => absurd ⟨l, rfl⟩ h, fun l' el h => absurd h (by rw [← sb_inj el]; omega)⟩
    have el := sb_inj el
    subst el
    have hur : u ≠ r := fun z => by rw [← z, e1] at hrn; cases hrn
    have nr : Nw H1 r := .of hrn
    have e2 := x2.ins e1 (fun fs' n h => by have := congrArg List.length h; rw [List.length_append] at this; simp [sn] at this)
    have x2 := x1.trans x2
    refine ⟨_, rfl, u, _, dx, _, rfl, e2, T.k_Wood, T.n_Wood_row, by exact (by decide : 0 < 1000), ?_⟩
    generalize hH : upd H2 u _ = H3
    have x3 : Xt (tK K) H0 H3 := by rw [← hH]; exact x2.put nu (.ins e2)
    have e3 := atE hH
    have er3 : RowAt K H3 r l 0 := ⟨er.1, er.2.choose, by rw [← hH, upd_ne (Ne.symm hur)]; exact er.2.choose_spec⟩
    clear hH er
    refine ⟨_, rfl, _, rfl, hzl, _, rfl, fun _ => ?_, fun h => absurd h (by omega)⟩
    rw [show ((((sb l).length : Nat) : Int)).toNat = l.length by rw [sb_len]; omega]
    refine ⟨_, rfl, u, _, dx, _, rfl, e3, T.k_Wood, T.n_Wood_wide, by exact (by decide : 1 < 1000), ?_⟩
    generalize hH : upd H3 u _ = H4
    have x4 : Xt (tK K) H0 H4 := by rw [← hH]; exact x3.put nu (.ins e3)
    have e4 := atE hH
    have er4 : RowAt K H4 r l 0 := ⟨er3.1, er3.2.choose, by rw [← hH, upd_ne (Ne.symm hur)]; exact er3.2.choose_spec⟩
    clear hH er3
    refine ⟨by decide, fun p np => ?_⟩
    have np0 : Nw H0 p := x4.nw (.of np)
    generalize hH : upd H4 p _ = H5
    have x5 : Xt (tK K) H4 H5 := newE hH np
    have ep : H5 p = some (.lst ((List.range 0).map fun b => .int (lowF l b 32))) := atE hH
    have hup : u ≠ p := fun z => by rw [← z, e4] at np; cases np
    have hrp : r ≠ p := fun z => by rw [← z, er4.2.choose_spec] at np; cases np
    have e5 : H5 u = some (.ins (He.ga K "Wood") dx [("row", .ref r), ("wide", .int (nd l.length))]) := by rw [← hH, upd_ne hup]; exact e4
    have er5 : RowAt K H5 r l 0 := ⟨er4.1, er4.2.choose, by rw [← hH, upd_ne hrp]; exact er4.2.choose_spec⟩
    have x5 := x4.trans x5
    clear hH er4 np
    have e32 : (((sb l).length : Nat) : Int) / 32 = ((l.length / 32 : Nat) : Int) := by rw [sb_len]; omega
    refine ⟨_, rfl, _, rfl, hzl, _, _, rfl, rfl, wide_div (b := 6) (by decide) (by decide) (by decide) (by decide), _, rfl, by omega, by omega, ?_⟩
    rw [e32]
    refine for_it w_range (fun i σ H' => Xt (tK K) H0 H' ∧ H' u = some (.ins (He.ga K "Wood") dx [("row", .ref r), ("wide", .int (nd l.length))]) ∧ RowAt K H' r l 0 ∧ H' p = some (.lst ((List.range i).map fun b => .int (lowF l b 32))) ∧ ∃ t4 t5 t6, σ = [some (.ref u), some (.str (sb l)), some (.ref p), some (.int (dq l (i * 32))), t4, t5, t6]) ⟨x5, e5, er5, ep, none, none, none, rfl⟩ (fun _ _ _ _ _ => trivial) ?_ ?_
    · intro i x σ Ha Hb hi hp hy
      obtain ⟨xa, ea, era, epa, t4, t5, t6, rfl⟩ := hp
      obtain ⟨rfl, rfl⟩ := hy
      have hi : i < l.length / 32 := by omega
      have ei : (0 : Int) + (i : Int) = (i : Int) := by omega
      rw [ei]
      have ecut : V.str (cutS (sb l) (some ((i : Int) * 32)) (some (((i : Int) + 1) * 32))) = .str (sb ((l.take ((i + 1) * 32)).drop (i * 32))) := by
        rw [show (i : Int) * 32 = ((i * 32 : Nat) : Int) by omega, show ((i : Int) + 1) * 32 = (((i + 1) * 32 : Nat) : Int) by omega, cut_sb]
      have hpl : ((l.take ((i + 1) * 32)).drop (i * 32)).length = 32 := by rw [List.length_drop, List.length_take]; omega
      have hpg : ∀ k, k < 32 → ((l.take ((i + 1) * 32)).drop (i * 32))[k]? = l[i * 32 + k]? := fun k hk => by
        rw [List.getElem?_drop, List.getElem?_take_of_lt (by omega)]
      refine ⟨_, rfl, _, rfl, hzl, _, rfl, _, rfl, _, _, rfl, rfl, .inr ⟨by decide, by decide⟩, _, rfl, _, rfl, _, _, rfl, rfl, _, _, rfl, rfl, .inr ⟨by decide, by decide⟩, _, rfl, sb l, rfl, hzl, sb ((l.take ((i + 1) * 32)).drop (i * 32)), ecut, ?_⟩
      generalize (l.take ((i + 1) * 32)).drop (i * 32) = pt at hpl hpg ⊢
      refine for_it w_str (fun k σ H' => H' = Hb ∧ ∃ t6, σ = [some (.ref u), some (.str (sb l)), some (.ref p), some (.int (dq l (i * 32 + k))), some (.int i), some (.int (lowF l i k)), t6]) ⟨rfl, t6, ?_⟩ (fun _ _ _ _ _ => trivial) ?_ ?_
      · show [some (V.ref u), some (.str (sb l)), some (.ref p), some (.int (dq l (i * 32))), some (.int i), some (.int ((sb l).length : Nat)), t6] = _
        rw [sb_len]
        rfl
      · intro k x σ Hc Hd hk hp hy
        obtain ⟨rfl, t6, rfl⟩ := hp
        obtain ⟨rfl, c, hc, rfl⟩ := hy
        rw [List.length_map, hpl] at hk
        rw [List.getElem?_map, hpg k hk] at hc
        obtain ⟨b, hb, rfl⟩ := Option.map_eq_some_iff.mp hc
        refine ⟨_, rfl, _, rfl, _, _, rfl, int_bit b, by rw [S_len]; exact (by decide : 1 ≤ 640), _, _, rfl, rfl, .inl ⟨by decide, by decide⟩, _, _, rfl, rfl, _, _, rfl, rfl, ?_⟩
        show gName 3 (V.int (dq l (i * 32 + k) + 2 * (b.toNat : Int) - 1)) _ _ _
        rw [← dq_succ hb]
        exact ⟨_, rfl, _, rfl, _, _, rfl, rfl, _, rfl⟩
      · intro σ Hc hp
        obtain ⟨rfl, t6, rfl⟩ := hp
        rw [List.length_map, hpl]
        refine ⟨_, rfl, .inl ⟨rfl, _, SqL.of epa⟩, _, rfl, p, _, _, rfl, rfl, epa, ?_, ?_⟩
        · rw [List.length_map, List.length_range]
          exact Nat.lt_of_le_of_lt (show i ≤ 2000 by omega) (by decide)
        have hup : u ≠ p := fun z => by rw [z, epa] at ea; cases ea
        have hrp : r ≠ p := fun z => by rw [← z, era.2.choose_spec] at epa; cases epa
        refine ⟨xa.mut np0 epa, by rw [upd_ne hup]; exact ea, ⟨era.1, era.2.choose, by rw [upd_ne hrp]; exact era.2.choose_spec⟩, ?_, some (.int i), some (.int (lowF l i 32)), t6, ?_⟩
        · rw [upd_same, List.range_succ, List.map_append]
          rfl
        · rw [show (i + 1) * 32 = i * 32 + 32 by omega]
    · intro σ Ha hp
      obtain ⟨xa, ea, era, epa, t4, t5, t6, rfl⟩ := hp
      have ek : ((((l.length / 32 : Nat) : Int))).toNat = l.length / 32 := by omega
      rw [ek] at epa
      have hgood : ∀ n ∈ ((List.range (l.length / 32)).map fun b => lowF l b 32), 0 ≤ n ∧ nd n.toNat ≤ nd l.length := fun n hn => by
        obtain ⟨b, hb, rfl⟩ := List.mem_map.mp hn
        have hb := List.mem_range.mp hb
        exact ⟨low_ge W (by omega), lw_nd W hb⟩
      have hnd13 : nd l.length ≤ 13 := (nd_le _ _).mpr (by omega)
      refine ⟨_, rfl, _, rfl, u, _, dx, _, _, rfl, ea, T.k_Wood, T.n_Wood_wide, rfl, p, ((List.range (l.length / 32)).map fun b => lowF l b 32), nd l.length, rfl, SqL.of (by rw [epa, List.map_map]; rfl), ?_, by omega, fun _ Hb xb => ?_, fun ⟨n, hn, hb⟩ => ?_⟩
      · rw [List.length_map, List.length_range]
        omega
      · have ect : ((List.range (l.length / 32)).map fun b => lowF l b 32).map Int.toNat = lws l := by
          rw [List.map_map]
          rfl
        rw [ect]
        have eb := xb.same ea fun ps z => by cases z
        have erb := era.xs xb
        have xb := xa.trans xb.up
        refine ⟨_, rfl, u, _, dx, _, rfl, eb, T.k_Wood, T.n_Wood_lows, by exact (by decide : 2 < 1000), ?_⟩
        have hur : u ≠ r := fun z => by rw [z, erb.2.choose_spec] at eb; injection eb with eb; injection eb with _ _ eb; cases eb
        exact q1 _ (xb.put nu (.ins eb)) ⟨W, hl, r, dx, 0, upd_same .., erb.1, erb.2.choose, by rw [upd_ne (Ne.symm hur)]; exact erb.2.choose_spec⟩
      · exfalso
        have := hgood n hn
        omega
end
end Tw

set_option maxHeartbeats 4000000
namespace Tw
open PySem PySem.Spec PyProof.Rows L2 LamX
section
variable {P : Program} {w : World} {K : PySem.W.Frag} {mg : Str → Option Value} {base : Heap}
theorem hp__law_word (T : Tx K mg) {Tt : List (Addr × Str)} : FnHp P w K mg base 1 (He.fAd K ("_law_word", none)) (fdOf K ("_law_word", none)) ["_law_e"] (spWord K Tt) := by
  refine fn_hp T.F__law_word sc__law_word (fun p vs H Q h => ?_) (fun cdv A outer s H vs Q p hot hr h => ?_)
  · obtain ⟨x, hx, rfl, _⟩ := h
    rfl
  · obtain ⟨x, hx, rfl, hz, hf, q⟩ := h
    have b := bad_of T.exb hx
    have hC := b.c
    obtain ⟨a, oe⟩ := p
    have hp : (a, oe) ∈ (L2H.cxH CX0 P w K mg base N__law_word "_law_word" (defScope s__law_word) (He.fAd K ("_law_word", none)) cdv A outer s H E0 (a, oe)).pn := List.mem_cons_self
    have hcx : L2H.HotC (L2H.cxH CX0 P w K mg base N__law_word "_law_word" (defScope s__law_word) (He.fAd K ("_law_word", none)) cdv A outer s H E0 (a, oe)) := ⟨_, hot, hp⟩
    refine ⟨_, (pss_cons (ps_set (i := 1) sc__law_word.nd rfl (.inl rfl) (pe_lst (pa_cons (pe_callB (call_isP hC hp hz hf) (by rfl) T.z_isinstance b_isinstance (pa_cons (pv 0) (pa_cons (pe_glob (v := .ref _) (by rfl) T.g_BadNumber rfl) pa_nil))) (pa_cons (pe_callB (call_isP hC hp hz hf) (by rfl) T.z_isinstance b_isinstance (pa_cons (pv 0) (pa_cons (pe_glob (v := .ref _) (by rfl) T.g_BadBits rfl) pa_nil))) (pa_cons (pe_callB (call_isP hC hp hz hf) (by rfl) T.z_isinstance b_isinstance (pa_cons (pv 0) (pa_cons (pe_glob (v := .ref _) (by rfl) T.g_BadPlace rfl) pa_nil))) pa_nil)))))
    (pss_cons (ps_set (i := 1) sc__law_word.nd rfl (.inl rfl) (pe_op op_cat (pv 1) (pe_lst (pa_cons (pe_callB (call_isP hC hp hz hf) (by rfl) T.z_isinstance b_isinstance (pa_cons (pv 0) (pa_cons (pe_glob (v := .ref _) (by rfl) T.g_BadText rfl) pa_nil))) pa_nil))))
    (pss_cons (ps_set (i := 1) sc__law_word.nd rfl (.inl rfl) (pe_op op_cat (pv 1) (pe_lst (pa_cons (pe_callB (call_isP hC hp hz hf) (by rfl) T.z_isinstance b_isinstance (pa_cons (pv 0) (pa_cons (pe_glob (v := .ref _) (by rfl) T.g_BadCode rfl) pa_nil))) (pa_cons (pe_callB (call_isP hC hp hz hf) (by rfl) T.z_isinstance b_isinstance (pa_cons (pv 0) (pa_cons (pe_glob (v := .ref _) (by rfl) T.g_BadTree rfl) pa_nil))) (pa_cons (pe_callB (call_isP hC hp hz hf) (by rfl) T.z_isinstance b_isinstance (pa_cons (pv 0) (pa_cons (pe_glob (v := .ref _) (by rfl) T.g_TooMany rfl) pa_nil))) pa_nil))))))
    (pss_cons (ps_if (PW.pt (pw_or (pt_cmpR op_ne (pe_callB (cr_sumH hcx) (by rfl) T.z_sum b_sum (pa_cons (pe_lcH (own := [("_law_flag", 2)]) hcx sc__law_word.nd (pv 1) (blkOk_by (N := N__law_word) (sc := defScope s__law_word) (by decide +kernel)) (fun _ _ _ _ _ => (pg_name (i := 2) sc__law_word.nd rfl (.inl rfl))) (fun _ _ _ _ _ => (pe_callTy call_int1 (by rfl) T.z_int b_int (pa_cons (pv 2) pa_nil)))) pa_nil)) pe_int (nomark _)) (pw_or1 (pt_not (pt_val (pe_callB (call_isP hC hp hz hf) (by rfl) T.z_isinstance b_isinstance (pa_cons (pv 0) (pa_cons (pe_bltn (v := .ty _) (by rfl) T.z_ValueError b_ValueError rfl) pa_nil))))))))
    (pss_one (ps_ret pe_str)) pss_nil)
    (pss_one (ps_ret (pe_ix (ix_listK (K := K) rfl) (pe_lst (pa_cons pe_str (pa_cons pe_str (pa_cons pe_str (pa_cons pe_str (pa_cons pe_str (pa_cons pe_str (pa_cons pe_str pa_nil)))))))) (pe_bmK (K := K) rfl F.plainAttrs_list F.slot_list_index F.type_list_index (mt_indexK (K := K) rfl) (pv 1) (pa_cons pe_bl pa_nil) (by rfl) (by rfl) (by rfl) (by rfl) (by rfl)) (fun _ _ => rfl)))))))), ?_⟩
    let c (y : Str) : V := .bl (decide (x = y))
    refine ⟨_, rfl, _, _, _, rfl, fun _ r => r, b.k "BadNumber" (by decide +kernel), _, rfl, _, _, _, rfl, fun _ r => r, b.k "BadBits" (by decide +kernel), _, rfl, _, _, _, rfl, fun _ r => r, b.k "BadPlace" (by decide +kernel), (by decide : 3 ≤ sizeLine), fun p1 n1 => ?_⟩
    have x1 : Xt Tt H (upd H p1 (.lst [c "BadNumber", c "BadBits", c "BadPlace"])) := .new n1
    have e1 : (upd H p1 (.lst [c "BadNumber", c "BadBits", c "BadPlace"])) p1 = some (.lst [c "BadNumber", c "BadBits", c "BadPlace"]) := upd_same ..
    generalize upd H p1 (.lst [c "BadNumber", c "BadBits", c "BadPlace"]) = H1 at x1 e1 ⊢
    refine ⟨_, rfl, _, rfl, _, _, _, rfl, fun _ r => r, b.k "BadText" (by decide +kernel), (by decide : 1 ≤ sizeLine), fun p2 n2 => ?_⟩
    have x2 : Xt Tt H (upd H1 p2 (.lst [c "BadText"])) := x1.trans (.new n2)
    refine ⟨_, _, _, _, rfl, rfl, (Xt.new (T := Tt) n2).lst e1, upd_same .., (by decide : 4 ≤ sizeLine), fun p3 n3 => ?_⟩
    have x3 := x2.trans (.new (T := Tt) (o := .lst [c "BadNumber", c "BadBits", c "BadPlace", c "BadText"]) n3)
    have e3 : (upd (upd H1 p2 (.lst [c "BadText"])) p3 (.lst [c "BadNumber", c "BadBits", c "BadPlace", c "BadText"])) p3 = some (.lst [c "BadNumber", c "BadBits", c "BadPlace", c "BadText"]) := upd_same ..
    show tSeq _ _ _ _ (upd (upd H1 p2 (.lst [c "BadText"])) p3 (.lst [c "BadNumber", c "BadBits", c "BadPlace", c "BadText"]))
    generalize upd (upd H1 p2 (.lst [c "BadText"])) p3 (.lst [c "BadNumber", c "BadBits", c "BadPlace", c "BadText"]) = H3 at x3 e3 ⊢
    refine ⟨_, rfl, _, rfl, _, _, _, rfl, fun _ r => r, b.k "BadCode" (by decide +kernel), _, rfl, _, _, _, rfl, fun _ r => r, b.k "BadTree" (by decide +kernel), _, rfl, _, _, _, rfl, fun _ r => r, b.k "TooMany" (by decide +kernel), (by decide : 3 ≤ sizeLine), fun p4 n4 => ?_⟩
    refine ⟨_, _, _, _, rfl, rfl, (Xt.new (T := Tt) n4).lst e3, upd_same .., (by decide : 7 ≤ sizeLine), fun p5 n5 => ?_⟩
    have x5 := (x3.trans (.new (T := Tt) (o := .lst [c "BadCode", c "BadTree", c "TooMany"]) n4)).trans (.new (T := Tt) (o := .lst (seven.map c)) n5)
    have e5 : (upd (upd H3 p4 (.lst [c "BadCode", c "BadTree", c "TooMany"])) p5 (.lst (seven.map c))) p5 = some (.lst (seven.map c)) := upd_same ..
    show tSeq _ _ _ _ (upd (upd H3 p4 (.lst [c "BadCode", c "BadTree", c "TooMany"])) p5 (.lst (seven.map c)))
    generalize upd (upd H3 p4 (.lst [c "BadCode", c "BadTree", c "TooMany"])) p5 (.lst (seven.map c)) = H5 at x5 e5 ⊢
    refine ⟨_, rfl, _, _, rfl, SqL.of e5, fun D hD => ⟨fun i H' => Xt Tt H H' ∧ H' p5 = some (.lst (seven.map c)) ∧ H' D = some (.lst ((seven.take i).map fun y => .int (if x = y then 1 else 0))), ?_, ?_, ?_, ?_⟩⟩
    · exact ⟨x5.trans (.new hD), (Xt.new (T := Tt) hD).lst e5, upd_same ..⟩
    · exact fun i H' h => SqL.of h.2.1
    · intro i v H' hv h
      refine ⟨rfl, ?_⟩
      obtain ⟨x6, h6, h7⟩ := h
      rw [List.getElem?_map] at hv
      obtain ⟨y, hy, rfl⟩ := Option.map_eq_some_iff.mp hv
      refine ⟨_, rfl, .inr ⟨_, rfl, _, h7, ?_, x6.mut (x5.nw (.of hD)) h7, ?_, ?_⟩⟩
      · rw [List.length_map, List.length_take]
        exact Nat.lt_of_le_of_lt (Nat.min_le_right _ _) (by decide)
      · rw [upd_ne (fun z => ?_)]
        · exact h6
        · rw [← z] at h7
          rw [h6] at h7
          have h8 := congrArg (fun o : Option HO => match o with | some (.lst (V.bl _ :: _)) => true | _ => false) h7
          cases i with
          | zero => cases h8
          | succ i => cases h8
      · rw [upd_same, List.take_add_one, hy, List.map_append]
        by_cases e : x = y
        · rw [decide_eq_true e]
          simp [e]
        · rw [decide_eq_false e]
          simp [e]
    · rintro H' ⟨x6, h6, h7⟩
      refine ⟨_, seven.map fun y => if x = y then 1 else 0, rfl, SqL.of ?_, ?_⟩
      · rw [h7]
        show some (HO.lst _) = some (HO.lst _)
        rw [List.map_map]
        rfl
      · have hs : (seven.map fun y => if x = y then (1 : Int) else 0).sum = 1 := by
          simp only [seven, List.mem_cons, List.not_mem_nil, or_false] at hx
          rcases hx with rfl | rfl | rfl | rfl | rfl | rfl | rfl <;> decide +kernel
        rw [hs]
        refine ⟨rfl, _, rfl, ite2 (fun z => absurd z (by decide)) fun _ => ?_⟩
        refine ⟨_, rfl, _, _, _, rfl, fun _ r => r, b.v, _, rfl, iteF ?_⟩
        refine ⟨by decide, fun p6 n6 => ?_⟩
        have h5 : (upd H' p6 (.lst (seven.map .str))) p5 = some (.lst (seven.map c)) := (Xt.new (T := Tt) n6).lst h6
        obtain ⟨j, hj, hl⟩ := List.mem_iff_getElem.mp hx
        have sq : SqL K (upd H' p6 (.lst (seven.map .str))) p5 (seven.map c) := SqL.of h5
        refine ⟨_, rfl, .inl ⟨rfl, _, sq⟩, p5, _, .bl true, j, .bl true, rfl, rfl, sq, rfl, ?_, ?_, rfl, ?_, ?_⟩
        · rw [List.all_eq_true]
          intro v hv
          obtain ⟨y, _, rfl⟩ := List.mem_map.mp hv
          rfl
        · rw [List.getElem?_map, List.getElem?_eq_getElem hj, hl]
          show some (V.bl (decide (x = x))) = _
          rw [decide_eq_true rfl]
        · intro m z hm hz
          rw [List.getElem?_map] at hz
          obtain ⟨y, hy, rfl⟩ := Option.map_eq_some_iff.mp hz
          have ne : x ≠ y := fun e => by
            have hm2 : m < seven.length := by omega
            rw [List.getElem?_eq_getElem hm2] at hy
            have hj3 : ∀ i (h : i < seven.length), ∀ k (h2 : k < seven.length), i < k → seven[i] ≠ seven[k] := by decide +kernel
            exact hj3 m hm2 j hj hm (by rw [hl, e]; exact Option.some.inj hy)
          show (decide (x = y) == true) = false
          rw [decide_eq_false ne]
          rfl
        · refine ⟨p6, seven.map .str, j, .str x, rfl, rfl, SqL.of (upd_same ..), atI_nat ?_, q _ (x6.trans (.new n6))⟩
          rw [List.getElem?_map, List.getElem?_eq_getElem hj, hl]
          rfl
end
def tTold (K : PySem.W.Frag) (t : XK → TE) : TE := fun σ H Q => Tabs (tK K) H ∧ ∀ H1, ExtN H H1 → Tabs (tK K) H1 → t (EW K (tK K) Q) σ H1 Q
section
variable {X : Cx} {K : PySem.W.Frag} {mg : Str → Option Value} {base : Heap}
theorem pe_told (T : Tx K mg) {at_ : He.Defn} {k : Nat} {params : Arguments} {body : Expr} {scope : Scope} {t : XK → TE} {p lpos pos : Pos}
    (TB : TabB base mg (He.cT K at_).1 (He.cT K at_).2) (hK : X.K = K) (hmg : X.mg = mg) (hbs : X.base = base) (hr : Room (k + 4) X.A) (hg : Gl X "_law_told") (hcode : X.env.code = .ref (He.cT K at_).1) (hmT : ((He.cT K at_).2, X.env.qual ++ "<lambda>") ∈ tK K)
    (hu : ∀ p ∈ tK K, p.1 = (He.cT K at_).2 → p.2 = X.env.qual ++ "<lambda>") (L : LamS X.env.scope scope) (hdef : defaultsOf params X.env = ([], []))
    (hbind : ∀ (q : Str) (cl : List (Str × Addr)) (pm cv ctv : Value), bindArgs (PySem.W.kla_fn "<lambda>" q params body scope cl pm cv ctv) ⟨[], []⟩ = pure [])
    (hbody : ∀ (A : Around) (outer : List Env) (s : Shared) (H : Hp) (E : XK) (f c' : Addr), Room (k + 2) (A.deeper (lamEnv X scope s.heap.objs.size f c')) → (∀ σ, PassesAt (L2N.CX X.prog X.w) (lamN X A outer s H E scope f c') σ E) → PE (lamN X A outer s H E scope f c') body (t E)) :
    PE X (.Call (.Name "_law_told" p) [.Lambda params body scope lpos] [] pos) (tTold K t) := by
  subst hK hmg hbs
  exact told_gen hg T.g__law_told T.F__law_told T.B__law_told sc__law_told rfl rfl rfl rfl T.g_TerseError T.g__law_word T.F__law_word.kp T.B__law_word (hp__law_word T) T.exb TB hcode hmT hu hr L hdef hbind fun A outer s H E f c' hr2 => hbody A outer s H E f c' hr2 fun σ => psL σ
end
end Tw

set_option maxHeartbeats 4000000
namespace Tw
open PySem PySem.Spec PyProof.Rows L2 LamX
section
variable {P : Program} {w : World} {K : PySem.W.Frag} {mg : Str → Option Value} {base : Heap}
/-- i refusals told in the list at p -/
structure BW (K : PySem.W.Frag) (H0 : Hp) (u : Addr) (l : List Bool) (z : Str) (p : Addr) (i : Nat) (H : Hp) : Prop where
  x : Xt (tK K) H0 H
  w : WoodAt K H u l
  n : Nw H0 p
  e : H p = some (.lst (List.replicate i (.str z)))
section
variable {H0 H H' : Hp} {u p p1 p2 : Addr} {l : List Bool} {z : Str} {i : Nat}
theorem BW.xt (s : BW K H0 u l z p i H) (x : Xt (tK K) H H') : BW K H0 u l z p i H' := ⟨s.x.trans x, s.w.xt x, s.n, x.lst s.e⟩
theorem BW.app (s : BW K H0 u l z p i H) (h : upd H p (.lst (List.replicate i (.str z) ++ [.str z])) = H') : BW K H0 u l z p (i + 1) H' := by
  obtain ⟨x, hw, n, e⟩ := s
  have hup : u ≠ p := fun z => by
    obtain ⟨_, _, r, dx, m, ew, _⟩ := hw
    rw [z, e] at ew
    cases ew
  obtain ⟨W, hl, r, dx, m, ew, er⟩ := hw
  have hrp : r ≠ p := fun z => by
    obtain ⟨_, dr, er⟩ := er
    rw [z, e] at er
    cases er
  subst h
  exact ⟨x.mut n e, ⟨W, hl, r, dx, m, by rw [upd_ne hup]; exact ew, er.1, er.2.choose, by rw [upd_ne hrp]; exact er.2.choose_spec⟩, n, by rw [upd_same, List.replicate_succ']⟩
theorem BW.new (x : Xt (tK K) H0 H) (hw : WoodAt K H u l) (n : H p = none) (h : upd H p (.lst [.str z]) = H') : BW K H0 u l z p 1 H' := by
  have y : Xt (tK K) H H' := newE h n
  exact ⟨x.trans y, hw.xt y, x.nw (.of n), atE h⟩
theorem BW.cat (s : BW K H0 u l z p i H) (n : H p2 = none) (h : upd H p2 (.lst (List.replicate i (.str z) ++ [.str z])) = H') : BW K H0 u l z p2 (i + 1) H' := by
  have y : Xt (tK K) H H' := newE h n
  exact ⟨s.x.trans y, s.w.xt y, s.x.nw (.of n), by rw [atE h, List.replicate_succ']⟩
end
theorem rep_len {i : Nat} {z : Str} (h : i ≤ 1000) : (List.replicate i (V.str z)).length < sizeLine := by
  rw [List.length_replicate]
  exact Nat.lt_of_le_of_lt h (by decide)
def spDeeds (K : PySem.W.Frag) : Sp := fun vs H Q E => ∃ (u : Addr) (l : List Bool) (odd : Int) (p : Nat), vs = [.ref u, .int odd, .int p] ∧ WoodAt K H u l ∧ (∀ j : Nat, odd = j → ¬ l[j]? = some true) ∧ l[p]? = some true ∧ Tabs (tK K) H ∧ ∀ H' a, Xt (tK K) H H' → H' a = some (.lst (List.replicate 22 (.str "BadPlace"))) → Q (.ref a) H'
theorem ok__law_deeds (T : Tx K mg) (TB__law_deeds : TabB base mg (He.cT K ("_law_deeds", none)).1 (He.cT K ("_law_deeds", none)).2) : OkN P w K mg base ("_law_deeds", none) 18 ["_law_wood", "_law_odd", "_law_node"] (spDeeds K) := by
  refine okC T.F__law_deeds sc__law_deeds (fun vs H Q E h => ?_) (fun A outer s H vs Q E hr h => ?_)
  · obtain ⟨u, l, odd, p, rfl, _⟩ := h
    rfl
  · obtain ⟨u, l, odd, p, rfl, hw, bad, hp, hT, q⟩ := h
    refine ⟨_, (pss_cons (ps_set (i := 3) sc__law_deeds.nd rfl (.inl rfl) (pe_lst (pa_cons (pe_told T TB__law_deeds rfl rfl rfl hr (by rfl) (by rfl) (by exact T.tk__law_deeds) (by exact T.tu__law_deeds) (lamS_by (by rfl)) (by rfl) (by intros; rfl) (fun A outer s H E f c' hr2 hx2 => (pe_meth (dvs := []) (pv 0) T.k_Wood T.M_Wood_number (ok_Wood_number T) (hr2.mono (by decide)) T.B_Wood_number .nil (fun pins σ => hx2 σ pins) (pa_cons (pv 1) pa_nil)))) pa_nil)))
    (pss_cons (ps_expr (pe_bmK (K := K) rfl F.plainAttrs_list F.slot_list_append F.type_list_append mt_append (pv 3) (pa_cons (pe_told T TB__law_deeds rfl rfl rfl hr (by rfl) (by rfl) (by exact T.tk__law_deeds) (by exact T.tu__law_deeds) (lamS_by (by rfl)) (by rfl) (by intros; rfl) (fun A outer s H E f c' hr2 hx2 => (pe_meth (dvs := []) (pv 0) T.k_Wood T.M_Wood_number_behind (ok_Wood_number_behind T) (hr2.mono (by decide)) T.B_Wood_number_behind .nil (fun pins σ => hx2 σ pins) (pa_cons (pv 1) pa_nil)))) pa_nil) (by rfl) (by rfl) (by rfl) (by rfl) (by rfl)))
    (pss_cons (ps_expr (pe_bmK (K := K) rfl F.plainAttrs_list F.slot_list_append F.type_list_append mt_append (pv 3) (pa_cons (pe_told T TB__law_deeds rfl rfl rfl hr (by rfl) (by rfl) (by exact T.tk__law_deeds) (by exact T.tu__law_deeds) (lamS_by (by rfl)) (by rfl) (by intros; rfl) (fun A outer s H E f c' hr2 hx2 => (pe_meth (dvs := []) (pv 0) T.k_Wood T.M_Wood_end (ok_Wood_end T) (hr2.mono (by decide)) T.B_Wood_end .nil (fun pins σ => hx2 σ pins) (pa_cons (pv 1) pa_nil)))) pa_nil) (by rfl) (by rfl) (by rfl) (by rfl) (by rfl)))
    (pss_cons (ps_expr (pe_bmK (K := K) rfl F.plainAttrs_list F.slot_list_append F.type_list_append mt_append (pv 3) (pa_cons (pe_told T TB__law_deeds rfl rfl rfl hr (by rfl) (by rfl) (by exact T.tk__law_deeds) (by exact T.tu__law_deeds) (lamS_by (by rfl)) (by rfl) (by intros; rfl) (fun A outer s H E f c' hr2 hx2 => (pe_meth (dvs := []) (pv 0) T.k_Wood T.M_Wood_depth (ok_Wood_depth T) (hr2.mono (by decide)) T.B_Wood_depth .nil (fun pins σ => hx2 σ pins) (pa_cons (pv 1) pa_nil)))) pa_nil) (by rfl) (by rfl) (by rfl) (by rfl) (by rfl)))
    (pss_cons (ps_expr (pe_bmK (K := K) rfl F.plainAttrs_list F.slot_list_append F.type_list_append mt_append (pv 3) (pa_cons (pe_told T TB__law_deeds rfl rfl rfl hr (by rfl) (by rfl) (by exact T.tk__law_deeds) (by exact T.tu__law_deeds) (lamS_by (by rfl)) (by rfl) (by intros; rfl) (fun A outer s H E f c' hr2 hx2 => (pe_meth (dvs := []) (pv 0) T.k_Wood T.M_Wood_many (ok_Wood_many T) (hr2.mono (by decide)) T.B_Wood_many .nil (fun pins σ => hx2 σ pins) (pa_cons (pv 1) pa_nil)))) pa_nil) (by rfl) (by rfl) (by rfl) (by rfl) (by rfl)))
    (pss_cons (ps_set (i := 3) sc__law_deeds.nd rfl (.inl rfl) (pe_op op_cat (pv 3) (pe_lst (pa_cons (pe_told T TB__law_deeds rfl rfl rfl hr (by rfl) (by rfl) (by exact T.tk__law_deeds) (by exact T.tu__law_deeds) (lamS_by (by rfl)) (by rfl) (by intros; rfl) (fun A outer s H E f c' hr2 hx2 => (pe_meth (dvs := []) (pv 0) T.k_Wood T.M_Wood_leaves (ok_Wood_leaves T) (hr2.mono (by decide)) T.B_Wood_leaves .nil (fun pins σ => hx2 σ pins) (pa_cons (pv 1) pa_nil)))) pa_nil))))
    (pss_cons (ps_expr (pe_bmK (K := K) rfl F.plainAttrs_list F.slot_list_append F.type_list_append mt_append (pv 3) (pa_cons (pe_told T TB__law_deeds rfl rfl rfl hr (by rfl) (by rfl) (by exact T.tk__law_deeds) (by exact T.tu__law_deeds) (lamS_by (by rfl)) (by rfl) (by intros; rfl) (fun A outer s H E f c' hr2 hx2 => (pe_meth (dvs := []) (pv 0) T.k_Wood T.M_Wood_height (ok_Wood_height T) (hr2.mono (by decide)) T.B_Wood_height .nil (fun pins σ => hx2 σ pins) (pa_cons (pv 1) pa_nil)))) pa_nil) (by rfl) (by rfl) (by rfl) (by rfl) (by rfl)))
    (pss_cons (ps_expr (pe_bmK (K := K) rfl F.plainAttrs_list F.slot_list_append F.type_list_append mt_append (pv 3) (pa_cons (pe_told T TB__law_deeds rfl rfl rfl hr (by rfl) (by rfl) (by exact T.tk__law_deeds) (by exact T.tu__law_deeds) (lamS_by (by rfl)) (by rfl) (by intros; rfl) (fun A outer s H E f c' hr2 hx2 => (pe_meth (dvs := []) (pv 0) T.k_Wood T.M_Wood_parent (ok_Wood_parent T) (hr2.mono (by decide)) T.B_Wood_parent .nil (fun pins σ => hx2 σ pins) (pa_cons (pv 1) pa_nil)))) pa_nil) (by rfl) (by rfl) (by rfl) (by rfl) (by rfl)))
    (pss_cons (ps_set (i := 3) sc__law_deeds.nd rfl (.inl rfl) (pe_op op_cat (pv 3) (pe_lst (pa_cons (pe_told T TB__law_deeds rfl rfl rfl hr (by rfl) (by rfl) (by exact T.tk__law_deeds) (by exact T.tu__law_deeds) (lamS_by (by rfl)) (by rfl) (by intros; rfl) (fun A outer s H E f c' hr2 hx2 => (pe_meth (dvs := []) (pv 0) T.k_Wood T.M_Wood_above (ok_Wood_above T) (hr2.mono (by decide)) T.B_Wood_above .nil (fun pins σ => hx2 σ pins) (pa_cons (pv 1) (pa_cons pe_int pa_nil))))) pa_nil))))
    (pss_cons (ps_expr (pe_bmK (K := K) rfl F.plainAttrs_list F.slot_list_append F.type_list_append mt_append (pv 3) (pa_cons (pe_told T TB__law_deeds rfl rfl rfl hr (by rfl) (by rfl) (by exact T.tk__law_deeds) (by exact T.tu__law_deeds) (lamS_by (by rfl)) (by rfl) (by intros; rfl) (fun A outer s H E f c' hr2 hx2 => (pe_meth (dvs := []) (pv 0) T.k_Wood T.M_Wood_children (ok_Wood_children T) (hr2.mono (by decide)) T.B_Wood_children .nil (fun pins σ => hx2 σ pins) (pa_cons (pv 1) pa_nil)))) pa_nil) (by rfl) (by rfl) (by rfl) (by rfl) (by rfl)))
    (pss_cons (ps_expr (pe_bmK (K := K) rfl F.plainAttrs_list F.slot_list_append F.type_list_append mt_append (pv 3) (pa_cons (pe_told T TB__law_deeds rfl rfl rfl hr (by rfl) (by rfl) (by exact T.tk__law_deeds) (by exact T.tu__law_deeds) (lamS_by (by rfl)) (by rfl) (by intros; rfl) (fun A outer s H E f c' hr2 hx2 => (pe_meth (dvs := []) (pv 0) T.k_Wood T.M_Wood_degree (ok_Wood_degree T) (hr2.mono (by decide)) T.B_Wood_degree .nil (fun pins σ => hx2 σ pins) (pa_cons (pv 1) pa_nil)))) pa_nil) (by rfl) (by rfl) (by rfl) (by rfl) (by rfl)))
    (pss_cons (ps_set (i := 3) sc__law_deeds.nd rfl (.inl rfl) (pe_op op_cat (pv 3) (pe_lst (pa_cons (pe_told T TB__law_deeds rfl rfl rfl hr (by rfl) (by rfl) (by exact T.tk__law_deeds) (by exact T.tu__law_deeds) (lamS_by (by rfl)) (by rfl) (by intros; rfl) (fun A outer s H E f c' hr2 hx2 => (pe_meth (dvs := []) (pv 0) T.k_Wood T.M_Wood_child (ok_Wood_child T) (hr2.mono (by decide)) T.B_Wood_child .nil (fun pins σ => hx2 σ pins) (pa_cons (pv 1) (pa_cons pe_int pa_nil))))) pa_nil))))
    (pss_cons (ps_expr (pe_bmK (K := K) rfl F.plainAttrs_list F.slot_list_append F.type_list_append mt_append (pv 3) (pa_cons (pe_told T TB__law_deeds rfl rfl rfl hr (by rfl) (by rfl) (by exact T.tk__law_deeds) (by exact T.tu__law_deeds) (lamS_by (by rfl)) (by rfl) (by intros; rfl) (fun A outer s H E f c' hr2 hx2 => (pe_meth (dvs := []) (pv 0) T.k_Wood T.M_Wood_which (ok_Wood_which T) (hr2.mono (by decide)) T.B_Wood_which .nil (fun pins σ => hx2 σ pins) (pa_cons (pv 1) pa_nil)))) pa_nil) (by rfl) (by rfl) (by rfl) (by rfl) (by rfl)))
    (pss_cons (ps_expr (pe_bmK (K := K) rfl F.plainAttrs_list F.slot_list_append F.type_list_append mt_append (pv 3) (pa_cons (pe_told T TB__law_deeds rfl rfl rfl hr (by rfl) (by rfl) (by exact T.tk__law_deeds) (by exact T.tu__law_deeds) (lamS_by (by rfl)) (by rfl) (by intros; rfl) (fun A outer s H E f c' hr2 hx2 => (pe_meth (dvs := []) (pv 0) T.k_Wood T.M_Wood_next_child (ok_Wood_next_child T) (hr2.mono (by decide)) T.B_Wood_next_child .nil (fun pins σ => hx2 σ pins) (pa_cons (pv 1) pa_nil)))) pa_nil) (by rfl) (by rfl) (by rfl) (by rfl) (by rfl)))
    (pss_cons (ps_set (i := 3) sc__law_deeds.nd rfl (.inl rfl) (pe_op op_cat (pv 3) (pe_lst (pa_cons (pe_told T TB__law_deeds rfl rfl rfl hr (by rfl) (by rfl) (by exact T.tk__law_deeds) (by exact T.tu__law_deeds) (lamS_by (by rfl)) (by rfl) (by intros; rfl) (fun A outer s H E f c' hr2 hx2 => (pe_meth (dvs := []) (pv 0) T.k_Wood T.M_Wood_last_child (ok_Wood_last_child T) (hr2.mono (by decide)) T.B_Wood_last_child .nil (fun pins σ => hx2 σ pins) (pa_cons (pv 1) pa_nil)))) pa_nil))))
    (pss_cons (ps_set (i := 3) sc__law_deeds.nd rfl (.inl rfl) (pe_op op_cat (pv 3) (pe_lst (pa_cons (pe_told T TB__law_deeds rfl rfl rfl hr (by rfl) (by rfl) (by exact T.tk__law_deeds) (by exact T.tu__law_deeds) (lamS_by (by rfl)) (by rfl) (by intros; rfl) (fun A outer s H E f c' hr2 hx2 => (pe_meth (dvs := []) (pv 0) T.k_Wood T.M_Wood_above_both (ok_Wood_above_both T) (hr2.mono (by decide)) T.B_Wood_above_both .nil (fun pins σ => hx2 σ pins) (pa_cons (pv 1) (pa_cons (pv 2) pa_nil))))) pa_nil))))
    (pss_cons (ps_set (i := 3) sc__law_deeds.nd rfl (.inl rfl) (pe_op op_cat (pv 3) (pe_lst (pa_cons (pe_told T TB__law_deeds rfl rfl rfl hr (by rfl) (by rfl) (by exact T.tk__law_deeds) (by exact T.tu__law_deeds) (lamS_by (by rfl)) (by rfl) (by intros; rfl) (fun A outer s H E f c' hr2 hx2 => (pe_meth (dvs := []) (pv 0) T.k_Wood T.M_Wood_above_both (ok_Wood_above_both T) (hr2.mono (by decide)) T.B_Wood_above_both .nil (fun pins σ => hx2 σ pins) (pa_cons (pv 2) (pa_cons (pv 1) pa_nil))))) pa_nil))))
    (pss_cons (ps_set (i := 3) sc__law_deeds.nd rfl (.inl rfl) (pe_op op_cat (pv 3) (pe_lst (pa_cons (pe_told T TB__law_deeds rfl rfl rfl hr (by rfl) (by rfl) (by exact T.tk__law_deeds) (by exact T.tu__law_deeds) (lamS_by (by rfl)) (by rfl) (by intros; rfl) (fun A outer s H E f c' hr2 hx2 => (pe_meth (dvs := []) (pv 0) T.k_Wood T.M_Wood_is_above (ok_Wood_is_above T) (hr2.mono (by decide)) T.B_Wood_is_above .nil (fun pins σ => hx2 σ pins) (pa_cons (pv 1) (pa_cons (pv 2) pa_nil))))) pa_nil))))
    (pss_cons (ps_set (i := 3) sc__law_deeds.nd rfl (.inl rfl) (pe_op op_cat (pv 3) (pe_lst (pa_cons (pe_told T TB__law_deeds rfl rfl rfl hr (by rfl) (by rfl) (by exact T.tk__law_deeds) (by exact T.tu__law_deeds) (lamS_by (by rfl)) (by rfl) (by intros; rfl) (fun A outer s H E f c' hr2 hx2 => (pe_meth (dvs := []) (pv 0) T.k_Wood T.M_Wood_is_above (ok_Wood_is_above T) (hr2.mono (by decide)) T.B_Wood_is_above .nil (fun pins σ => hx2 σ pins) (pa_cons (pv 2) (pa_cons (pv 1) pa_nil))))) pa_nil))))
    (pss_cons (ps_expr (pe_bmK (K := K) rfl F.plainAttrs_list F.slot_list_append F.type_list_append mt_append (pv 3) (pa_cons (pe_told T TB__law_deeds rfl rfl rfl hr (by rfl) (by rfl) (by exact T.tk__law_deeds) (by exact T.tu__law_deeds) (lamS_by (by rfl)) (by rfl) (by intros; rfl) (fun A outer s H E f c' hr2 hx2 => (pe_meth (dvs := []) (pv 0) T.k_Wood T.M_Wood_level_next (ok_Wood_level_next T) (hr2.mono (by decide)) T.B_Wood_level_next .nil (fun pins σ => hx2 σ pins) (pa_cons (pv 1) pa_nil)))) pa_nil) (by rfl) (by rfl) (by rfl) (by rfl) (by rfl)))
    (pss_cons (ps_expr (pe_bmK (K := K) rfl F.plainAttrs_list F.slot_list_append F.type_list_append mt_append (pv 3) (pa_cons (pe_told T TB__law_deeds rfl rfl rfl hr (by rfl) (by rfl) (by exact T.tk__law_deeds) (by exact T.tu__law_deeds) (lamS_by (by rfl)) (by rfl) (by intros; rfl) (fun A outer s H E f c' hr2 hx2 => (pe_meth (dvs := []) (pv 0) T.k_Wood T.M_Wood_deepest (ok_Wood_deepest T) (hr2.mono (by decide)) T.B_Wood_deepest .nil (fun pins σ => hx2 σ pins) (pa_cons (pv 1) pa_nil)))) pa_nil) (by rfl) (by rfl) (by rfl) (by rfl) (by rfl)))
    (pss_cons (ps_expr (pe_bmK (K := K) rfl F.plainAttrs_list F.slot_list_append F.type_list_append mt_append (pv 3) (pa_cons (pe_told T TB__law_deeds rfl rfl rfl hr (by rfl) (by rfl) (by exact T.tk__law_deeds) (by exact T.tu__law_deeds) (lamS_by (by rfl)) (by rfl) (by intros; rfl) (fun A outer s H E f c' hr2 hx2 => (pe_meth (dvs := []) (pv 0) T.k_Wood T.M_Wood_above (ok_Wood_above T) (hr2.mono (by decide)) T.B_Wood_above .nil (fun pins σ => hx2 σ pins) (pa_cons (pv 1) (pa_cons pe_int pa_nil))))) pa_nil) (by rfl) (by rfl) (by rfl) (by rfl) (by rfl)))
    (pss_one (ps_ret (pv 3))))))))))))))))))))))))), ?_⟩
    refine ⟨hT, fun G xn tg => ?_⟩
    have yG : Xt (tK K) H G := .ex xn tg
    have hwG := hw.xt yG
    have ⟨_, _, r, dx, n, ew, er⟩ := hwG
    refine ⟨_, rfl, u, _, _, rfl, ew, rfl, _, rfl, u, l, odd, rfl, hwG, fun j ej hj => absurd hj (bad j ej), fun _ H2 x2 => ⟨"BadPlace", by decide +kernel, rfl, rfl, fun H3 x3 => ?_⟩⟩
    have y3 := yG.trans (x2.trans x3)
    refine ⟨by exact (by decide : 1 ≤ sizeLine), fun a na => ?_⟩
    generalize hH : upd H3 a _ = H4
    have s := BW.new y3 (hw.xt y3) na hH
    clear hH na xn tg x2 x3 y3 yG hwG ew er
    refine ⟨_, rfl, .inl ⟨rfl, _, SqL.of s.e⟩, s.x.tb hT, fun G xn tg => ?_⟩
    have sG := s.xt (.ex xn tg)
    have hwG := sG.w
    have ⟨_, _, r, dx, n, ew, er⟩ := hwG
    refine ⟨_, rfl, u, _, _, rfl, ew, rfl, _, rfl, u, l, odd, rfl, hwG, fun j ej hj => absurd hj (bad j ej), fun _ H2 x2 => ⟨"BadPlace", by decide +kernel, rfl, rfl, fun H3 x3 => ?_⟩⟩
    have s := sG.xt (x2.trans x3)
    refine ⟨a, _, _, rfl, rfl, s.e, rep_len (by decide), ?_⟩
    generalize hH : upd H3 a _ = H4
    have s := s.app hH
    clear hH xn tg x2 x3 sG hwG ew er
    refine ⟨_, rfl, .inl ⟨rfl, _, SqL.of s.e⟩, s.x.tb hT, fun G xn tg => ?_⟩
    have sG := s.xt (.ex xn tg)
    have hwG := sG.w
    have ⟨_, _, r, dx, n, ew, er⟩ := hwG
    refine ⟨_, rfl, u, _, _, rfl, ew, rfl, _, rfl, u, l, odd, rfl, hwG, fun j ej hj => absurd hj (bad j ej), fun _ H2 x2 => ⟨"BadPlace", by decide +kernel, rfl, rfl, fun H3 x3 => ?_⟩⟩
    have s := sG.xt (x2.trans x3)
    refine ⟨a, _, _, rfl, rfl, s.e, rep_len (by decide), ?_⟩
    generalize hH : upd H3 a _ = H4
    have s := s.app hH
    clear hH xn tg x2 x3 sG hwG ew er
    refine ⟨_, rfl, .inl ⟨rfl, _, SqL.of s.e⟩, s.x.tb hT, fun G xn tg => ?_⟩
    have sG := s.xt (.ex xn tg)
    have hwG := sG.w
    have ⟨_, _, r, dx, n, ew, er⟩ := hwG
    refine ⟨_, rfl, u, _, _, rfl, ew, rfl, _, rfl, u, l, odd, rfl, hwG, fun j ej hj => absurd hj (bad j ej), fun _ H2 x2 => ⟨"BadPlace", by decide +kernel, rfl, rfl, fun H3 x3 => ?_⟩⟩
    have s := sG.xt (x2.trans x3)
    refine ⟨a, _, _, rfl, rfl, s.e, rep_len (by decide), ?_⟩
    generalize hH : upd H3 a _ = H4
    have s := s.app hH
    clear hH xn tg x2 x3 sG hwG ew er
    refine ⟨_, rfl, .inl ⟨rfl, _, SqL.of s.e⟩, s.x.tb hT, fun G xn tg => ?_⟩
    have sG := s.xt (.ex xn tg)
    have hwG := sG.w
    have ⟨_, _, r, dx, n, ew, er⟩ := hwG
    refine ⟨_, rfl, u, _, _, rfl, ew, rfl, _, rfl, u, l, odd, rfl, hwG, fun j ej hj => absurd hj (bad j ej), fun _ H2 x2 => ⟨"BadPlace", by decide +kernel, rfl, rfl, fun H3 x3 => ?_⟩⟩
    have s := sG.xt (x2.trans x3)
    refine ⟨a, _, _, rfl, rfl, s.e, rep_len (by decide), ?_⟩
    generalize hH : upd H3 a _ = H4
    have s := s.app hH
    clear hH xn tg x2 x3 sG hwG ew er
    refine ⟨_, rfl, s.x.tb hT, fun G xn tg => ?_⟩
    have sG := s.xt (.ex xn tg)
    have hwG := sG.w
    have ⟨_, _, r, dx, n, ew, er⟩ := hwG
    refine ⟨_, rfl, u, _, _, rfl, ew, rfl, _, rfl, u, l, odd, rfl, hwG, fun j ej hj => absurd hj (bad j ej), fun _ H2 x2 => ⟨"BadPlace", by decide +kernel, rfl, rfl, fun H3 x3 => ?_⟩⟩
    have s := sG.xt (x2.trans x3)
    refine ⟨by exact (by decide : 1 ≤ sizeLine), fun a1 n1 => ?_⟩
    generalize hH : upd H3 a1 _ = H4
    have y4 := newE (lo := True) (T := tK K) hH n1
    have e4 := atE hH
    have s := s.xt y4
    clear hH n1
    refine ⟨_, _, _, _, rfl, rfl, s.e, e4, by rw [List.length_replicate]; exact (by decide : 6 ≤ sizeLine), fun b0 n2 => ?_⟩
    generalize hH : upd H4 b0 _ = H5
    have s := s.cat n2 hH
    clear hH n2 xn tg x2 x3 sG hwG ew er y4 e4
    refine ⟨_, rfl, .inl ⟨rfl, _, SqL.of s.e⟩, s.x.tb hT, fun G xn tg => ?_⟩
    have sG := s.xt (.ex xn tg)
    have hwG := sG.w
    have ⟨_, _, r, dx, n, ew, er⟩ := hwG
    refine ⟨_, rfl, u, _, _, rfl, ew, rfl, _, rfl, u, l, odd, rfl, hwG, fun j ej hj => absurd hj (bad j ej), fun _ H2 x2 => ⟨"BadPlace", by decide +kernel, rfl, rfl, fun H3 x3 => ?_⟩⟩
    have s := sG.xt (x2.trans x3)
    refine ⟨b0, _, _, rfl, rfl, s.e, rep_len (by decide), ?_⟩
    generalize hH : upd H3 b0 _ = H4
    have s := s.app hH
    clear hH xn tg x2 x3 sG hwG ew er
    refine ⟨_, rfl, .inl ⟨rfl, _, SqL.of s.e⟩, s.x.tb hT, fun G xn tg => ?_⟩
    have sG := s.xt (.ex xn tg)
    have hwG := sG.w
    have ⟨_, _, r, dx, n, ew, er⟩ := hwG
    refine ⟨_, rfl, u, _, _, rfl, ew, rfl, _, rfl, u, l, odd, rfl, hwG, fun j ej hj => absurd hj (bad j ej), fun _ H2 x2 => ⟨"BadPlace", by decide +kernel, rfl, rfl, fun H3 x3 => ?_⟩⟩
    have s := sG.xt (x2.trans x3)
    refine ⟨b0, _, _, rfl, rfl, s.e, rep_len (by decide), ?_⟩
    generalize hH : upd H3 b0 _ = H4
    have s := s.app hH
    clear hH xn tg x2 x3 sG hwG ew er
    refine ⟨_, rfl, s.x.tb hT, fun G xn tg => ?_⟩
    have sG := s.xt (.ex xn tg)
    have hwG := sG.w
    have ⟨_, _, r, dx, n, ew, er⟩ := hwG
    refine ⟨_, rfl, u, _, _, rfl, ew, rfl, _, rfl, u, l, odd, 1, rfl, hwG, fun j k ej ek hj => absurd hj (bad j ej), fun _ H2 x2 => ⟨"BadPlace", by decide +kernel, rfl, rfl, fun H3 x3 => ?_⟩⟩
    have s := sG.xt (x2.trans x3)
    refine ⟨by exact (by decide : 1 ≤ sizeLine), fun a1 n1 => ?_⟩
    generalize hH : upd H3 a1 _ = H4
    have y4 := newE (lo := True) (T := tK K) hH n1
    have e4 := atE hH
    have s := s.xt y4
    clear hH n1
    refine ⟨_, _, _, _, rfl, rfl, s.e, e4, by rw [List.length_replicate]; exact (by decide : 9 ≤ sizeLine), fun b1 n2 => ?_⟩
    generalize hH : upd H4 b1 _ = H5
    have s := s.cat n2 hH
    clear hH n2 xn tg x2 x3 sG hwG ew er y4 e4
    refine ⟨_, rfl, .inl ⟨rfl, _, SqL.of s.e⟩, s.x.tb hT, fun G xn tg => ?_⟩
    have sG := s.xt (.ex xn tg)
    have hwG := sG.w
    have ⟨_, _, r, dx, n, ew, er⟩ := hwG
    refine ⟨_, rfl, u, _, _, rfl, ew, rfl, _, rfl, u, l, odd, rfl, hwG, fun j ej hj => absurd hj (bad j ej), fun _ H2 x2 => ⟨"BadPlace", by decide +kernel, rfl, rfl, fun H3 x3 => ?_⟩⟩
    have s := sG.xt (x2.trans x3)
    refine ⟨b1, _, _, rfl, rfl, s.e, rep_len (by decide), ?_⟩
    generalize hH : upd H3 b1 _ = H4
    have s := s.app hH
    clear hH xn tg x2 x3 sG hwG ew er
    refine ⟨_, rfl, .inl ⟨rfl, _, SqL.of s.e⟩, s.x.tb hT, fun G xn tg => ?_⟩
    have sG := s.xt (.ex xn tg)
    have hwG := sG.w
    have ⟨_, _, r, dx, n, ew, er⟩ := hwG
    refine ⟨_, rfl, u, _, _, rfl, ew, rfl, _, rfl, u, l, odd, rfl, hwG, fun j ej hj => absurd hj (bad j ej), fun _ H2 x2 => ⟨"BadPlace", by decide +kernel, rfl, rfl, fun H3 x3 => ?_⟩⟩
    have s := sG.xt (x2.trans x3)
    refine ⟨b1, _, _, rfl, rfl, s.e, rep_len (by decide), ?_⟩
    generalize hH : upd H3 b1 _ = H4
    have s := s.app hH
    clear hH xn tg x2 x3 sG hwG ew er
    refine ⟨_, rfl, s.x.tb hT, fun G xn tg => ?_⟩
    have sG := s.xt (.ex xn tg)
    have hwG := sG.w
    have ⟨_, _, r, dx, n, ew, er⟩ := hwG
    refine ⟨_, rfl, u, _, _, rfl, ew, rfl, _, rfl, u, l, odd, 0, rfl, hwG, fun j k c ej ek hj => absurd hj (bad j ej), fun _ H2 x2 => ⟨"BadPlace", by decide +kernel, rfl, rfl, fun H3 x3 => ?_⟩⟩
    have s := sG.xt (x2.trans x3)
    refine ⟨by exact (by decide : 1 ≤ sizeLine), fun a1 n1 => ?_⟩
    generalize hH : upd H3 a1 _ = H4
    have y4 := newE (lo := True) (T := tK K) hH n1
    have e4 := atE hH
    have s := s.xt y4
    clear hH n1
    refine ⟨_, _, _, _, rfl, rfl, s.e, e4, by rw [List.length_replicate]; exact (by decide : 12 ≤ sizeLine), fun b2 n2 => ?_⟩
    generalize hH : upd H4 b2 _ = H5
    have s := s.cat n2 hH
    clear hH n2 xn tg x2 x3 sG hwG ew er y4 e4
    refine ⟨_, rfl, .inl ⟨rfl, _, SqL.of s.e⟩, s.x.tb hT, fun G xn tg => ?_⟩
    have sG := s.xt (.ex xn tg)
    have hwG := sG.w
    have ⟨_, _, r, dx, n, ew, er⟩ := hwG
    refine ⟨_, rfl, u, _, _, rfl, ew, rfl, _, rfl, u, l, odd, rfl, hwG, fun j ej hj => absurd hj (bad j ej), fun _ H2 x2 => ⟨"BadPlace", by decide +kernel, rfl, rfl, fun H3 x3 => ?_⟩⟩
    have s := sG.xt (x2.trans x3)
    refine ⟨b2, _, _, rfl, rfl, s.e, rep_len (by decide), ?_⟩
    generalize hH : upd H3 b2 _ = H4
    have s := s.app hH
    clear hH xn tg x2 x3 sG hwG ew er
    refine ⟨_, rfl, .inl ⟨rfl, _, SqL.of s.e⟩, s.x.tb hT, fun G xn tg => ?_⟩
    have sG := s.xt (.ex xn tg)
    have hwG := sG.w
    have ⟨_, _, r, dx, n, ew, er⟩ := hwG
    refine ⟨_, rfl, u, _, _, rfl, ew, rfl, _, rfl, u, l, odd, rfl, hwG, fun j ej hj => absurd hj (bad j ej), fun _ H2 x2 => ⟨"BadPlace", by decide +kernel, rfl, rfl, fun H3 x3 => ?_⟩⟩
    have s := sG.xt (x2.trans x3)
    refine ⟨b2, _, _, rfl, rfl, s.e, rep_len (by decide), ?_⟩
    generalize hH : upd H3 b2 _ = H4
    have s := s.app hH
    clear hH xn tg x2 x3 sG hwG ew er
    refine ⟨_, rfl, s.x.tb hT, fun G xn tg => ?_⟩
    have sG := s.xt (.ex xn tg)
    have hwG := sG.w
    have ⟨_, _, r, dx, n, ew, er⟩ := hwG
    refine ⟨_, rfl, u, _, _, rfl, ew, rfl, _, rfl, u, l, odd, rfl, hwG, fun j ej hj => absurd hj (bad j ej), fun _ H2 x2 => ⟨"BadPlace", by decide +kernel, rfl, rfl, fun H3 x3 => ?_⟩⟩
    have s := sG.xt (x2.trans x3)
    refine ⟨by exact (by decide : 1 ≤ sizeLine), fun a1 n1 => ?_⟩
    generalize hH : upd H3 a1 _ = H4
    have y4 := newE (lo := True) (T := tK K) hH n1
    have e4 := atE hH
    have s := s.xt y4
    clear hH n1
    refine ⟨_, _, _, _, rfl, rfl, s.e, e4, by rw [List.length_replicate]; exact (by decide : 15 ≤ sizeLine), fun b3 n2 => ?_⟩
    generalize hH : upd H4 b3 _ = H5
    have s := s.cat n2 hH
    clear hH n2 xn tg x2 x3 sG hwG ew er y4 e4
    refine ⟨_, rfl, s.x.tb hT, fun G xn tg => ?_⟩
    have sG := s.xt (.ex xn tg)
    have hwG := sG.w
    have ⟨_, _, r, dx, n, ew, er⟩ := hwG
    refine ⟨_, rfl, u, _, _, rfl, ew, rfl, _, rfl, _, rfl, u, l, odd, _, rfl, hwG, fun i j ei ej hi => absurd hi (bad i ei), fun _ H2 x2 => ⟨"BadPlace", by decide +kernel, rfl, rfl, fun H3 x3 => ?_⟩⟩
    have s := sG.xt (x2.trans x3)
    refine ⟨by exact (by decide : 1 ≤ sizeLine), fun a1 n1 => ?_⟩
    generalize hH : upd H3 a1 _ = H4
    have y4 := newE (lo := True) (T := tK K) hH n1
    have e4 := atE hH
    have s := s.xt y4
    clear hH n1
    refine ⟨_, _, _, _, rfl, rfl, s.e, e4, by rw [List.length_replicate]; exact (by decide : 16 ≤ sizeLine), fun b4 n2 => ?_⟩
    generalize hH : upd H4 b4 _ = H5
    have s := s.cat n2 hH
    clear hH n2 xn tg x2 x3 sG hwG ew er y4 e4
    refine ⟨_, rfl, s.x.tb hT, fun G xn tg => ?_⟩
    have sG := s.xt (.ex xn tg)
    have hwG := sG.w
    have ⟨_, _, r, dx, n, ew, er⟩ := hwG
    refine ⟨_, rfl, u, _, _, rfl, ew, rfl, _, rfl, _, rfl, u, l, _, odd, rfl, hwG, fun i j ei ej _ hj => absurd hj (bad j ej), fun _ H2 x2 => ⟨"BadPlace", by decide +kernel, rfl, rfl, fun H3 x3 => ?_⟩⟩
    have s := sG.xt (x2.trans x3)
    refine ⟨by exact (by decide : 1 ≤ sizeLine), fun a1 n1 => ?_⟩
    generalize hH : upd H3 a1 _ = H4
    have y4 := newE (lo := True) (T := tK K) hH n1
    have e4 := atE hH
    have s := s.xt y4
    clear hH n1
    refine ⟨_, _, _, _, rfl, rfl, s.e, e4, by rw [List.length_replicate]; exact (by decide : 17 ≤ sizeLine), fun b5 n2 => ?_⟩
    generalize hH : upd H4 b5 _ = H5
    have s := s.cat n2 hH
    clear hH n2 xn tg x2 x3 sG hwG ew er y4 e4
    refine ⟨_, rfl, s.x.tb hT, fun G xn tg => ?_⟩
    have sG := s.xt (.ex xn tg)
    have hwG := sG.w
    have ⟨_, _, r, dx, n, ew, er⟩ := hwG
    refine ⟨_, rfl, u, _, _, rfl, ew, rfl, _, rfl, _, rfl, u, l, odd, _, rfl, hwG, fun i j ei ej hi => absurd hi (bad i ei), fun _ H2 x2 => ⟨"BadPlace", by decide +kernel, rfl, rfl, fun H3 x3 => ?_⟩⟩
    have s := sG.xt (x2.trans x3)
    refine ⟨by exact (by decide : 1 ≤ sizeLine), fun a1 n1 => ?_⟩
    generalize hH : upd H3 a1 _ = H4
    have y4 := newE (lo := True) (T := tK K) hH n1
    have e4 := atE hH
    have s := s.xt y4
    clear hH n1
    refine ⟨_, _, _, _, rfl, rfl, s.e, e4, by rw [List.length_replicate]; exact (by decide : 18 ≤ sizeLine), fun b6 n2 => ?_⟩
    generalize hH : upd H4 b6 _ = H5
    have s := s.cat n2 hH
    clear hH n2 xn tg x2 x3 sG hwG ew er y4 e4
    refine ⟨_, rfl, s.x.tb hT, fun G xn tg => ?_⟩
    have sG := s.xt (.ex xn tg)
    have hwG := sG.w
    have ⟨_, _, r, dx, n, ew, er⟩ := hwG
    refine ⟨_, rfl, u, _, _, rfl, ew, rfl, _, rfl, _, rfl, u, l, _, odd, rfl, hwG, fun i j ei ej _ hj => absurd hj (bad j ej), fun _ H2 x2 => ⟨"BadPlace", by decide +kernel, rfl, rfl, fun H3 x3 => ?_⟩⟩
    have s := sG.xt (x2.trans x3)
    refine ⟨by exact (by decide : 1 ≤ sizeLine), fun a1 n1 => ?_⟩
    generalize hH : upd H3 a1 _ = H4
    have y4 := newE (lo := True) (T := tK K) hH n1
    have e4 := atE hH
    have s := s.xt y4
    clear hH n1
    refine ⟨_, _, _, _, rfl, rfl, s.e, e4, by rw [List.length_replicate]; exact (by decide : 19 ≤ sizeLine), fun b7 n2 => ?_⟩
    generalize hH : upd H4 b7 _ = H5
    have s := s.cat n2 hH
    clear hH n2 xn tg x2 x3 sG hwG ew er y4 e4
    refine ⟨_, rfl, .inl ⟨rfl, _, SqL.of s.e⟩, s.x.tb hT, fun G xn tg => ?_⟩
    have sG := s.xt (.ex xn tg)
    have hwG := sG.w
    have ⟨_, _, r, dx, n, ew, er⟩ := hwG
    refine ⟨_, rfl, u, _, _, rfl, ew, rfl, _, rfl, u, l, odd, rfl, hwG, fun j ej hj => absurd hj (bad j ej), fun _ H2 x2 => ⟨"BadPlace", by decide +kernel, rfl, rfl, fun H3 x3 => ?_⟩⟩
    have s := sG.xt (x2.trans x3)
    refine ⟨b7, _, _, rfl, rfl, s.e, rep_len (by decide), ?_⟩
    generalize hH : upd H3 b7 _ = H4
    have s := s.app hH
    clear hH xn tg x2 x3 sG hwG ew er
    refine ⟨_, rfl, .inl ⟨rfl, _, SqL.of s.e⟩, s.x.tb hT, fun G xn tg => ?_⟩
    have sG := s.xt (.ex xn tg)
    have hwG := sG.w
    have ⟨_, _, r, dx, n, ew, er⟩ := hwG
    refine ⟨_, rfl, u, _, _, rfl, ew, rfl, _, rfl, u, l, odd, rfl, hwG, fun j ej hj => absurd hj (bad j ej), fun _ H2 x2 => ⟨"BadPlace", by decide +kernel, rfl, rfl, fun H3 x3 => ?_⟩⟩
    have s := sG.xt (x2.trans x3)
    refine ⟨b7, _, _, rfl, rfl, s.e, rep_len (by decide), ?_⟩
    generalize hH : upd H3 b7 _ = H4
    have s := s.app hH
    clear hH xn tg x2 x3 sG hwG ew er
    refine ⟨_, rfl, .inl ⟨rfl, _, SqL.of s.e⟩, s.x.tb hT, fun G xn tg => ?_⟩
    have sG := s.xt (.ex xn tg)
    have hwG := sG.w
    have ⟨_, _, r, dx, n, ew, er⟩ := hwG
    refine ⟨_, rfl, u, _, _, rfl, ew, rfl, _, rfl, u, l, odd, 0, rfl, hwG, fun j k ej ek hj => absurd hj (bad j ej), fun _ H2 x2 => ⟨"BadPlace", by decide +kernel, rfl, rfl, fun H3 x3 => ?_⟩⟩
    have s := sG.xt (x2.trans x3)
    refine ⟨b7, _, _, rfl, rfl, s.e, rep_len (by decide), ?_⟩
    generalize hH : upd H3 b7 _ = H4
    have s := s.app hH
    clear hH xn tg x2 x3 sG hwG ew er
    exact ⟨_, rfl, q _ _ s.x s.e⟩
end
end Tw

set_option maxHeartbeats 4000000
namespace Tw
open PySem PySem.Spec PyProof.Rows L2 LamX
section
variable {P : Program} {w : World} {K : PySem.W.Frag} {mg : Str → Option Value} {base : Heap}
def spLaw (K : PySem.W.Frag) : Sp := fun vs H Q _ => ∃ (a : Addr) (ns : List Int), vs = [.ref a] ∧ SqL K H a (ns.map .int) ∧ ns.length ≤ 63 ∧ Tabs (tK K) H ∧ ∀ H', Q (.bl true) H'
theorem spLaw_of {H : Hp} {a : Addr} {ns : List Int} (hS : SqL K H a (ns.map V.int)) (hl : ns.length ≤ 63) (_ : ∀ z ∈ ns, Builtin.Int.intBits z ≤ 1048576) (hT : Tabs (tK K) H) : spLaw K [.ref a] H (fun v _ => v = .bl true) fun _ _ _ => False := ⟨a, ns, rfl, hS, hl, hT, fun _ => rfl⟩
theorem rep_flat (n : Nat) (v : V) : (List.replicate n [v]).flatten = List.replicate n v := by
  induction n with
  | zero => rfl
  | succ n ih => rw [List.replicate_succ, List.flatten_cons, ih, List.replicate_succ]; rfl
theorem dp_reps {H : Hp} {a : Addr} {n : Nat} {z : Str} (e : H a = some (.lst (List.replicate n (.str z)))) : Dp K H (.ref a) (.list ((List.replicate n z).map .str)) := dp_strs (SqL.of (by rw [e, List.map_replicate]))
theorem sh_reps {n : Nat} {z : Str} (h : PyData.strOk z = true) : Sh 64 (.list ((List.replicate n z).map .str)) := sh_strs fun x hx => by rw [(List.mem_replicate.mp hx).2]; exact h
theorem even_not {l : List Bool} (W : okT l) {l' : List Bool} (h : l'.length + 1 = l.length ∨ l'.length = l.length + 1) : ¬ okT l' := fun W' => by
  have h1 := W.len
  have h2 := W'.len
  omega
theorem ok_law (T : Tx K mg) (TB__law_deeds : TabB base mg (He.cT K ("_law_deeds", none)).1 (He.cT K ("_law_deeds", none)).2) (TB_law : TabB base mg (He.cT K ("law", none)).1 (He.cT K ("law", none)).2) : OkN P w K mg base ("law", none) 214 ["_law_script"] (spLaw K) := by
  refine okC T.F_law sc_law (fun vs H Q E h => ?_) (fun A outer s H0 vs Q E hr h => ?_)
  · obtain ⟨a, ns, rfl, _⟩ := h
    rfl
  · obtain ⟨a, ns, rfl, ha, hl, hT, q⟩ := h
    refine ⟨_, (pss_cons (ps_for (passes_of rfl) rfl (pi_range1 (by rfl) T.z_range (pa_cons (pe_callB (call_max2 rfl) (by rfl) T.z_max b_max (pa_cons pe_int (pa_cons (pe_callB (call_min2 rfl) (by rfl) T.z_min b_min (pa_cons pe_int (pa_cons (pe_callB (call_len_seqK (K := K) rfl) (by rfl) T.z_len b_len (pa_cons (pv 0) pa_nil)) pa_nil))) pa_nil))) pa_nil)) (pg_name (i := 1) sc_law.nd rfl (.inl rfl))
    (pss_cons (ps_set (i := 2) sc_law.nd rfl (.inl rfl) (pe_callS (ok__law_drawn T) (hr.mono (by decide)) (by rfl) T.g__law_drawn T.F__law_drawn.kp T.B__law_drawn psE (pa_cons (pe_callS (ok__law_cell T) (hr.mono (by decide)) (by rfl) T.g__law_cell T.F__law_cell.kp T.B__law_cell psE (pa_cons (pv 0) (pa_cons (pv 1) pa_nil))) (pa_cons (pv 1) pa_nil))))
    (pss_cons (ps_set (i := 3) sc_law.nd rfl (.inr rfl) (pe_op op_add pe_int (pe_op op_mod (pe_op op_fdiv (pv 2) pe_int) pe_int)))
    (pss_cons (ps_set (i := 4) sc_law.nd rfl (.inr rfl) (pe_callS (ok__law_bits_of T 210) (hr.mono (by decide)) (by rfl) T.g__law_bits_of T.F__law_bits_of.kp T.B__law_bits_of psE (pa_cons (pe_callS (ok__law_tree T) (hr.mono (by decide)) (by rfl) T.g__law_tree T.F__law_tree.kp T.B__law_tree psE (pa_cons (pe_op op_fdiv (pv 2) pe_int) (pa_cons (pv 3) pa_nil))) pa_nil)))
    (pss_cons (ps_set (i := 5) sc_law.nd rfl (.inr rfl) (pe_make (dvs := []) T.mk_Wood (ok_Wood_init T) (hr.mono (by decide)) (by rfl) T.g_Wood T.B_Wood_init .nil psP (pa_cons (pv 4) pa_nil)))
    (pss_cons (ps_setLc (i := 6) (own := [("_law_at", 7)]) rfl sc_law.nd rfl rfl (sw_true rfl rfl rfl (by decide +kernel)) (pi_range1 (by rfl) T.z_range (pa_cons (pe_callB call_len_str (by rfl) T.z_len b_len (pa_cons (pv 4) pa_nil)) pa_nil)) (blkOk_by (N := N_law) (sc := defScope s_law) (by decide +kernel)) (fun _ _ _ _ _ => (pg_name (i := 7) sc_law.nd rfl (.inl rfl))) (fun _ _ _ _ _ => (pts_one (pt_cmpR op_eq (pe_ix ix_str (pv 4) (pv 7) (fun _ _ => rfl)) pe_str (nomark _)))) (fun _ _ _ _ _ => (pv 7)))
    (pss_cons (ps_setLc (i := 8) (own := [("_law_at", 7)]) rfl sc_law.nd rfl rfl (sw_true rfl rfl rfl (by decide +kernel)) (pi_range1 (by rfl) T.z_range (pa_cons (pe_callB call_len_str (by rfl) T.z_len b_len (pa_cons (pv 4) pa_nil)) pa_nil)) (blkOk_by (N := N_law) (sc := defScope s_law) (by decide +kernel)) (fun _ _ _ _ _ => (pg_name (i := 7) sc_law.nd rfl (.inl rfl))) (fun _ _ _ _ _ => (pts_one (pt_cmpR op_eq (pe_ix ix_str (pv 4) (pv 7) (fun _ _ => rfl)) pe_str (nomark _)))) (fun _ _ _ _ _ => (pv 7)))
    (pss_cons (ps_set (i := 9) sc_law.nd rfl (.inr rfl) (pe_ix (ix_listK (K := K) rfl) (pv 8) (pe_op op_mod (pe_op op_fdivW (pv 2) (pe_op op_pow pe_int pe_int)) (pv 3)) (fun _ _ => rfl)))
    (pss_cons (ps_for (passes_of rfl) rfl (pi_listK (K := K) rfl (pe_lst (pa_cons (pe_ix (ix_listK (K := K) rfl) (pv 6) (pe_op op_mod (pe_op op_fdivW (pv 2) (pe_op op_pow pe_int pe_int)) (pv 3)) (fun _ _ => rfl)) (pa_cons (pe_callB call_len_str (by rfl) T.z_len b_len (pa_cons (pv 4) pa_nil)) (pa_cons (pe_un un_neg pe_int) (pa_cons (pe_op op_add (pe_callB call_len_str (by rfl) T.z_len b_len (pa_cons (pv 4) pa_nil)) (pe_op op_mod (pe_op op_fdiv (pv 2) pe_int) pe_int)) (pa_cons (pe_op op_sub pe_int (pe_callB call_len_str (by rfl) T.z_len b_len (pa_cons (pv 4) pa_nil))) pa_nil))))))) (pg_name (i := 10) sc_law.nd rfl (.inl rfl))
    (pss_one (ps_if (pt_cmpR (op_neDK (K := K) rfl hr.units) (pe_callS (ok__law_deeds T TB__law_deeds) (hr.mono (by decide)) (by rfl) T.g__law_deeds T.F__law_deeds.kp T.B__law_deeds psE (pa_cons (pv 5) (pa_cons (pv 10) (pa_cons (pv 9) pa_nil)))) (pe_op op_rep (pe_lst (pa_cons pe_str pa_nil)) pe_int) (nomark _))
    (pss_one (ps_ret pe_bl)) pss_nil)))
    (pss_cons (ps_set (i := 11) sc_law.nd rfl (.inl rfl) (pe_lst (pa_cons (pe_told T TB_law rfl rfl rfl hr (by rfl) (by rfl) (by exact T.tk_law) (by exact T.tu_law) (lamS_by (by rfl)) (by rfl) (by intros; rfl) (fun A outer s H E f c' hr2 hx2 => (pe_meth (dvs := []) (pv 5) T.k_Wood T.M_Wood_node (ok_Wood_node T) (hr2.mono (by decide)) T.B_Wood_node .nil (fun pins σ => hx2 σ pins) (pa_cons (pv 3) pa_nil)))) pa_nil)))
    (pss_cons (ps_expr (pe_bmK (K := K) rfl F.plainAttrs_list F.slot_list_append F.type_list_append mt_append (pv 11) (pa_cons (pe_told T TB_law rfl rfl rfl hr (by rfl) (by rfl) (by exact T.tk_law) (by exact T.tu_law) (lamS_by (by rfl)) (by rfl) (by intros; rfl) (fun A outer s H E f c' hr2 hx2 => (pe_meth (dvs := []) (pv 5) T.k_Wood T.M_Wood_node (ok_Wood_node T) (hr2.mono (by decide)) T.B_Wood_node .nil (fun pins σ => hx2 σ pins) (pa_cons (pe_un un_neg pe_int) pa_nil)))) pa_nil) (by rfl) (by rfl) (by rfl) (by rfl) (by rfl)))
    (pss_cons (ps_set (i := 11) sc_law.nd rfl (.inl rfl) (pe_op op_cat (pv 11) (pe_lst (pa_cons (pe_told T TB_law rfl rfl rfl hr (by rfl) (by rfl) (by exact T.tk_law) (by exact T.tu_law) (lamS_by (by rfl)) (by rfl) (by intros; rfl) (fun A outer s H E f c' hr2 hx2 => (pe_meth (dvs := []) (pv 5) T.k_Wood T.M_Wood_above (ok_Wood_above T) (hr2.mono (by decide)) T.B_Wood_above .nil (fun pins σ => hx2 σ pins) (pa_cons (pv 9) (pa_cons (pe_un un_neg pe_int) pa_nil))))) pa_nil))))
    (pss_cons (ps_set (i := 11) sc_law.nd rfl (.inl rfl) (pe_op op_cat (pv 11) (pe_lst (pa_cons (pe_told T TB_law rfl rfl rfl hr (by rfl) (by rfl) (by exact T.tk_law) (by exact T.tu_law) (lamS_by (by rfl)) (by rfl) (by intros; rfl) (fun A outer s H E f c' hr2 hx2 => (pe_meth (dvs := []) (pv 5) T.k_Wood T.M_Wood_child (ok_Wood_child T) (hr2.mono (by decide)) T.B_Wood_child .nil (fun pins σ => hx2 σ pins) (pa_cons (pv 9) (pa_cons (pe_meth (dvs := []) (pv 5) T.k_Wood T.M_Wood_degree (ok_Wood_degree T) (hr2.mono (by decide)) T.B_Wood_degree .nil (fun pins σ => hx2 σ pins) (pa_cons (pv 9) pa_nil)) pa_nil))))) pa_nil))))
    (pss_cons (ps_set (i := 11) sc_law.nd rfl (.inl rfl) (pe_op op_cat (pv 11) (pe_lst (pa_cons (pe_told T TB_law rfl rfl rfl hr (by rfl) (by rfl) (by exact T.tk_law) (by exact T.tu_law) (lamS_by (by rfl)) (by rfl) (by intros; rfl) (fun A outer s H E f c' hr2 hx2 => (pe_meth (dvs := []) (pv 5) T.k_Wood T.M_Wood_child (ok_Wood_child T) (hr2.mono (by decide)) T.B_Wood_child .nil (fun pins σ => hx2 σ pins) (pa_cons (pv 9) (pa_cons (pe_un un_neg pe_int) pa_nil))))) pa_nil))))
    (pss_cons (ps_if (pt_cmpR (op_neDK (K := K) rfl hr.units) (pv 11) (pe_op op_rep (pe_lst (pa_cons pe_str pa_nil)) pe_int) (nomark _))
    (pss_one (ps_ret pe_bl)) pss_nil)
    (pss_cons (ps_set (i := 12) sc_law.nd rfl (.inl rfl) (pe_lst (pa_cons (pe_told T TB_law rfl rfl rfl hr (by rfl) (by rfl) (by exact T.tk_law) (by exact T.tu_law) (lamS_by (by rfl)) (by rfl) (by intros; rfl) (fun A outer s H E f c' hr2 hx2 => (pe_make (dvs := []) T.mk_Wood (ok_Wood_init T) (hr2.mono (by decide)) (by rfl) T.g_Wood T.B_Wood_init .nil (fun pins σ => hx2 σ pins) (pa_cons (pe_slice sl_str (pv 4) (po_some pe_int) po_none) pa_nil)))) pa_nil)))
    (pss_cons (ps_expr (pe_bmK (K := K) rfl F.plainAttrs_list F.slot_list_append F.type_list_append mt_append (pv 12) (pa_cons (pe_told T TB_law rfl rfl rfl hr (by rfl) (by rfl) (by exact T.tk_law) (by exact T.tu_law) (lamS_by (by rfl)) (by rfl) (by intros; rfl) (fun A outer s H E f c' hr2 hx2 => (pe_make (dvs := []) T.mk_Wood (ok_Wood_init T) (hr2.mono (by decide)) (by rfl) T.g_Wood T.B_Wood_init .nil (fun pins σ => hx2 σ pins) (pa_cons pe_str pa_nil)))) pa_nil) (by rfl) (by rfl) (by rfl) (by rfl) (by rfl)))
    (pss_cons (ps_expr (pe_bmK (K := K) rfl F.plainAttrs_list F.slot_list_append F.type_list_append mt_append (pv 12) (pa_cons (pe_told T TB_law rfl rfl rfl hr (by rfl) (by rfl) (by exact T.tk_law) (by exact T.tu_law) (lamS_by (by rfl)) (by rfl) (by intros; rfl) (fun A outer s H E f c' hr2 hx2 => (pe_make (dvs := []) T.mk_Wood (ok_Wood_init T) (hr2.mono (by decide)) (by rfl) T.g_Wood T.B_Wood_init .nil (fun pins σ => hx2 σ pins) (pa_cons (pe_op op_add_str (pv 4) pe_str) pa_nil)))) pa_nil) (by rfl) (by rfl) (by rfl) (by rfl) (by rfl)))
    (pss_cons (ps_if (pt_cmpR (op_neDK (K := K) rfl hr.units) (pv 12) (pe_op op_rep (pe_lst (pa_cons pe_str pa_nil)) pe_int) (nomark _))
    (pss_one (ps_ret pe_bl)) pss_nil)
    (pss_one (ps_if (pt_cmpR (op_neDK (K := K) rfl hr.units) (pe_lc (own := [("_law_j", 13)]) rfl sc_law.nd (pi_range1 (by rfl) T.z_range (pa_cons (pv 3) pa_nil)) (blkOk_by (N := N_law) (sc := defScope s_law) (by decide +kernel)) (fun _ _ _ _ _ => (pg_name (i := 13) sc_law.nd rfl (.inl rfl))) (fun _ _ _ _ _ => pts_nil) (fun _ _ _ _ _ => (pe_meth (dvs := []) (pv 5) T.k_Wood T.M_Wood_node (ok_Wood_node T) (hr.mono (by decide)) T.B_Wood_node .nil psP0 (pa_cons (pv 13) pa_nil)))) (pv 8) (nomark _))
    (pss_one (ps_ret pe_bl)) pss_nil)))))))))))))))))))))
    (pss_one (ps_ret pe_bl))), ?_⟩
    refine ⟨_, rfl, _, _, rfl, .inl ha, _, _, rfl, _, _, rfl, _, rfl, ?_, ?_, for_it w_range (fun i σ H' => Xt (tK K) H0 H' ∧ ∃ t, σ = some (.ref a) :: t ∧ t.length = 13) ⟨Xt.refl, _, rfl, rfl⟩ (fun _ _ _ _ _ => trivial) ?_ (fun σ H' h => q _)⟩
    · split <;> split <;> simp only [List.length_map] at * <;> omega
    · split <;> split <;> simp only [List.length_map] at * <;> omega
    intro k x σ H1 H2 hk p hy
    obtain ⟨x1, t, rfl, ht⟩ := p
    obtain ⟨rfl, rfl⟩ := hy
    have hk2 : k ≤ 63 := by
      have : ((if (if ((ns.map V.int).length : Int) < 3 then ((ns.map V.int).length : Int) else 3) > 1 then (if ((ns.map V.int).length : Int) < 3 then ((ns.map V.int).length : Int) else 3) else 1) : Int) ≤ 63 := by
        rw [List.length_map]
        split <;> split <;> omega
      omega
    match t, ht with
    | [o1, o2, o3, o4, o5, o6, o7, o8, o9, o10, o11, o12, o13], _ =>
    refine ⟨_, rfl, _, rfl, a, ns, k, ?_, x1.seq ha, by omega, by omega, fun H2 x2 => ?_⟩
    · rw [Int.zero_add]
    have x2 := x1.trans x2
    refine ⟨_, rfl, _, (0 + (k : Int)), rfl, by omega, by omega, ?_⟩
    generalize hm : dr (cellV ns k) (0 + (k : Int)) = m
    have hm0 : 0 ≤ m := by rw [← hm]; exact (dr_rng _ _).1
    have hmA : m < pA := by rw [← hm]; exact (dr_rng _ _).2
    generalize (0 + (k : Int)) = k0
    -- the tree
    obtain ⟨n, hn, hn1, hn2⟩ : ∃ n : Nat, (1 : Int) + m / 64 % 30 = n ∧ 1 ≤ n ∧ n ≤ 30 := ⟨(1 + m / 64 % 30).toNat, by omega, by omega, by omega⟩
    refine ⟨_, rfl, _, _, rfl, rfl, ⟨by decide, by decide⟩, _, _, rfl, rfl, (show (0 : Int) < 30 by decide), _, _, rfl, rfl, ?_⟩
    show gName 3 (V.int (1 + m / 64 % 30)) _ _ _
    rw [hn]
    refine ⟨_, rfl, _, _, rfl, rfl, ⟨by decide, by decide⟩, _, rfl, m / 8, n, rfl, by omega, hn1, by omega, fun H3 v o x3 ov hoc hoT hol hoh => ⟨v, o, rfl, ov, hoT, by omega, by omega, fun H4 x4 => ?_⟩⟩
    have x4 := (x2.trans x3).trans x4.up
    have W : okT (btT o) := okT_bt hoT (by omega)
    show gName 4 (V.str (sb (btT o))) _ _ _
    generalize btT o = l at W hol ⊢
    have hl2 : l.length ≤ 60 := by omega
    have hz := wood_sz (l := l) (by omega)
    have hcn : cn true l l.length = n := by have := W.len; omega
    have hcf : cn false l l.length = n := by have := cn_two (l := l) (Nat.le_refl l.length); omega
    refine ⟨_, rfl, fun u du h1 h2 h3 => ?_⟩
    have xm : Xt (tK K) H4 (upd (upd H4 du (.own u)) u (.ins (He.ga K "Wood") du [])) := (Xt.new h2).trans (.new (by rw [upd_ne (Ne.symm h3)]; exact h1))
    refine ⟨H4, u, du, sb l, rfl, xm, .of h1, upd_same .., by rw [sb_len]; omega, fun l' el _ _ H6 x6 hw => ⟨rfl, ?_⟩, fun h => absurd (h l rfl W) (by omega)⟩
    have el := sb_inj el
    subst el
    have x6 := x4.trans x6
    have e1s : (Str.ofString "1" : Str) = S [bc true] := by decide +kernel
    have e0s : (Str.ofString "0" : Str) = S [bc false] := by decide +kernel
    have ek : (((sb l).length : Nat) : Int).toNat = l.length := by rw [sb_len]; omega
    have kl : ∀ b : Bool, kept l.length (fun i => bt b l i) (fun i => V.int (0 + (i : Int))) = (pos b l).map fun i : Nat => V.int i := fun b => by
      unfold kept pos fr
      refine List.map_congr_left fun i _ => ?_
      rw [Int.zero_add]
    have test : ∀ (b : Bool) (i : Nat) (H' : Hp) (Q : Bool → Hp → Prop), i < l.length → Q (bt b l i) H' → ∃ c, atI (sb l).cps.toList ((0 : Int) + (i : Int)) = some c ∧ Q (decide (V.str ⟨#[c]⟩ = V.str (S [bc b]))) H' := fun b i H' Q hi q => by
      have hb : l[i]? = some l[i] := List.getElem?_eq_getElem hi
      refine ⟨bc l[i], ?_, ?_⟩
      · rw [Int.zero_add]
        refine atI_nat ?_
        show (l.map bc)[i]? = _
        rw [List.getElem?_map, hb]
        rfl
      · have : decide (V.str ⟨#[bc l[i]]⟩ = V.str (S [bc b])) = bt b l i := by
          unfold bt
          rw [hb]
          cases l[i] <;> cases b <;> decide +kernel
        rw [this]
        exact q
    -- noughts and ones
    refine ⟨_, rfl, _, rfl, hz, _, rfl, by rw [sb_len]; omega, by rw [sb_len]; omega, fun D1 d1 => lcF (T := tK K) w_range d1 (by rw [ek]; omega) (fun _ _ => trivial) (fun i => bt false l i) (fun i => .int (0 + (i : Int))) ?_ ?_ fun H7 x7 e7 => ?_⟩
    · intro i x H' hi hy x8 Q q
      subst hy
      rw [ek] at hi
      obtain ⟨c, hc, q⟩ := test false i H' Q hi (q H' .refl)
      rw [← e0s] at q
      exact ⟨_, rfl, _, rfl, sb l, _, c, rfl, rfl, hz, hc, rfl, _, rfl, q⟩
    · intro i x H' hi hy _ x8 Q q
      subst hy
      exact ⟨_, rfl, q H' .refl⟩
    rw [ek, kl] at e7
    have hw7 := hw.xt x7
    have x7 := x6.trans x7
    refine ⟨_, rfl, _, rfl, hz, _, rfl, by rw [sb_len]; omega, by rw [sb_len]; omega, fun D2 d2 => lcF (T := tK K) w_range d2 (by rw [ek]; omega) (fun _ _ => trivial) (fun i => bt true l i) (fun i => .int (0 + (i : Int))) ?_ ?_ fun H8 x8 e8 => ?_⟩
    · intro i x H' hi hy x8 Q q
      subst hy
      rw [ek] at hi
      obtain ⟨c, hc, q⟩ := test true i H' Q hi (q H' .refl)
      rw [← e1s] at q
      exact ⟨_, rfl, _, rfl, sb l, _, c, rfl, rfl, hz, hc, rfl, _, rfl, q⟩
    · intro i x H' hi hy _ x8 Q q
      subst hy
      exact ⟨_, rfl, q H' .refl⟩
    rw [ek, kl] at e8
    have e7 := x8.lst e7
    have hw8 := hw7.xt x8
    have x8 := x7.trans x8
    clear test kl x6 hw hw7 d1 d2
    have pick : ∀ (b : Bool) (z : Int), (pos b l).length = n → ∃ c : Nat, l[c]? = some b ∧ atI ((pos b l).map fun i : Nat => V.int i) (z % (n : Int)) = some (.int c) := fun b z hb => by
      have h1 := Int.emod_nonneg z (show (n : Int) ≠ 0 by omega)
      have h2 := Int.emod_lt_of_pos z (show (0 : Int) < n by omega)
      obtain ⟨k, hk⟩ : ∃ k : Nat, z % (n : Int) = k := ⟨(z % (n : Int)).toNat, by omega⟩
      rw [hk]
      have hk2 : k < (pos b l).length := by omega
      refine ⟨(pos b l)[k], bt_iff.mp (fr_mem.mp (List.getElem_mem hk2)).2, atI_nat ?_⟩
      rw [List.getElem?_map, List.getElem?_eq_getElem hk2]
      rfl
    obtain ⟨p, hp, at1⟩ := pick true (m / 2 ^ (16 : Int).toNat) hcn
    obtain ⟨nt, hnt, at2⟩ := pick false (m / 2 ^ (24 : Int).toNat) hcf
    have hn0 : (0 : Int) < (n : Int) := by omega
    refine ⟨_, rfl, _, rfl, _, _, rfl, rfl, ⟨by decide, by decide, by decide⟩, _, _, rfl, rfl, wide_div (b := 17) (by decide) (by decide) (by decide) (by decide), _, rfl, _, _, rfl, rfl, hn0, D2, _, _, .int p, rfl, rfl, SqL.of e8, at1, ?_⟩
    -- places that are no node's
    have el : (((sb l).length : Nat) : Int) = (l.length : Int) := by rw [sb_len]
    refine ⟨_, rfl, _, rfl, _, _, rfl, rfl, ⟨by decide, by decide, by decide⟩, _, _, rfl, rfl, wide_div (b := 25) (by decide) (by decide) (by decide) (by decide), _, rfl, _, _, rfl, rfl, hn0, D1, _, _, .int nt, rfl, rfl, SqL.of e7, at2, _, rfl, _, rfl, hz, _, rfl, _, rfl, _, rfl, hz, _, rfl, _, _, rfl, rfl, ⟨by decide, by decide⟩, _, _, rfl, rfl, (show (0 : Int) < 9 by decide), _, _, rfl, rfl, _, rfl, _, rfl, hz, _, _, rfl, rfl, by exact (by decide : 5 ≤ sizeLine), fun p9 n9 => ?_⟩
    generalize hH : upd H8 p9 _ = H9
    have xx := newE (lo := True) (T := tK K) hH n9
    have e9 := atE hH
    clear hH n9
    obtain ⟨od, eod⟩ : ∃ od : List Int, od = [(nt : Int), ((sb l).length : Nat), -1, ((sb l).length : Nat) + m / 32 % 9, 0 - ((sb l).length : Nat)] := ⟨_, rfl⟩
    have e9 : H9 p9 = some (.lst (od.map .int)) := by rw [e9, eod]; rfl
    have hod : ∀ z ∈ od, ∀ j : Nat, z = j → ¬ l[j]? = some true := fun z hz j ej h => by
      have hj := len_of h
      rw [eod, el] at hz
      have := W.pos
      simp only [List.mem_cons, List.not_mem_nil, or_false] at hz
      rcases hz with hz | hz | hz | hz | hz
      · obtain rfl : nt = j := by omega
        rw [hnt] at h
        cases h
      all_goals omega
    have hol5 : od.length = 5 := by rw [eod]; rfl
    clear eod
    have e8 := xx.lst e8
    have hw9 := hw8.xt xx
    have x9 := x8.trans xx
    refine ⟨p9, rfl, ⟨_, SqL.of e9⟩, for_it w_list (fun i σ H' => Xt (tK K) H9 H' ∧ ∃ t10, σ = [some (.ref a), some (.int k0), some (.int m), some (.int n), some (.str (sb l)), some (.ref u), some (.ref D1), o7, some (.ref D2), some (.int p), t10, o11, o12, o13]) ⟨.refl, _, rfl⟩ (fun _ _ _ _ p => SqL.of (p.1.lst e9)) ?_ ?_⟩
    · intro i x σ Ha Hb hi hp2 hy
      obtain ⟨xa, t10, rfl⟩ := hp2
      obtain ⟨rfl, hx⟩ := hy
      rw [List.getElem?_map] at hx
      obtain ⟨z, hz2, rfl⟩ := Option.map_eq_some_iff.mp hx
      refine ⟨_, rfl, _, rfl, _, rfl, u, l, z, p, rfl, hw9.xt xa, hod z (List.mem_of_getElem? hz2), hp, (x9.trans xa).tb hT, fun Hc b xc ec => ?_⟩
      refine ⟨by exact (by decide : 1 ≤ sizeLine), fun p2 n2 => ?_⟩
      generalize hH : upd Hc p2 _ = Hd
      have xd := newE (lo := True) (T := tK K) hH n2
      have ed := atE hH
      clear hH n2
      refine ⟨p2, 22, _, rfl, rfl, ed, by decide, by decide, by exact (by decide : 1 * 22 ≤ sizeLine), fun p3 n3 => ?_⟩
      generalize hH : upd Hd p3 _ = He
      have xe := newE (lo := True) (T := tK K) hH n3
      have ee : He p3 = some (.lst (List.replicate 22 (.str "BadPlace"))) := by rw [atE hH]; exact congrArg (fun z => some (HO.lst z)) (rep_flat 22 _)
      clear hH n3
      refine neD_same (dp_reps ((xd.trans xe).lst ec)) (dp_reps ee) (sh_reps (by decide +kernel)) ⟨_, rfl, iteF ⟨xa.trans (xc.trans (xd.trans xe)), _, rfl⟩⟩
    intro σ Ha hp2
    obtain ⟨xa, t10, rfl⟩ := hp2
    have e8 := xa.lst e8
    have hwa := hw9.xt xa
    have xa := x9.trans xa
    clear e9 hod hol5 od xx e7 at1 at2 pick
    have ⟨_, _, r, dx, n', ew, er⟩ := hwa
    -- numbers of nodes, steps and children
    refine ⟨xa.tb hT, fun G xn tg => ?_⟩
    have yG : Xt (tK K) Ha G := .ex xn tg
    have hwG := hwa.xt yG
    have ⟨_, _, r, dx, n', ew, er⟩ := hwG
    refine ⟨_, rfl, u, _, _, rfl, ew, rfl, _, rfl, u, l, n, rfl, hwG, fun j ej hj => absurd hj (by have := W.len; omega), fun _ H2 x2 => ⟨"BadPlace", by decide +kernel, rfl, rfl, fun H3 x3 => ?_⟩⟩
    have y3 := yG.trans (x2.trans x3)
    refine ⟨by exact (by decide : 1 ≤ sizeLine), fun b na => ?_⟩
    generalize hH : upd H3 b _ = H4
    have s := BW.new (xa.trans y3) (hwa.xt y3) na hH
    have e8 := (y3.trans (newE hH na)).lst e8
    clear hH na xn tg x2 x3 y3 yG hwG ew er
    refine ⟨_, rfl, .inl ⟨rfl, _, SqL.of s.e⟩, s.x.tb hT, fun G xn tg => ?_⟩
    have yG : Xt (tK K) H4 G := .ex xn tg
    have sG := s.xt yG
    have hwG := sG.w
    have ⟨_, _, r, dx, n', ew, er⟩ := hwG
    refine ⟨_, rfl, u, _, _, rfl, ew, rfl, _, rfl, u, l, -1, rfl, hwG, fun j ej hj => absurd ej (by omega), fun _ H2 x2 => ⟨"BadPlace", by decide +kernel, rfl, rfl, fun H3 x3 => ?_⟩⟩
    have s := sG.xt (x2.trans x3)
    have e8 := (yG.trans (x2.trans x3)).lst e8
    have hbD : b ≠ D2 := fun z => by
      have h5 := s.n.nl (xs := []) (a := b)
      have h6 := s.e
      rw [z, e8] at h6
      have h7 : ((pos true l).map fun i : Nat => V.int i) = List.replicate 1 (.str "BadPlace") := by
        injection h6 with h6
        injection h6
      have h8 : V.int 0 ∈ List.replicate 1 (V.str "BadPlace") := by
        rw [← h7]
        exact List.mem_map.mpr ⟨0, fr_mem.mpr ⟨len_of W.first, bt_iff.mpr W.first⟩, rfl⟩
      have := (List.mem_replicate.mp h8).2
      cases this
    refine ⟨b, _, _, rfl, rfl, s.e, rep_len (by decide), ?_⟩
    generalize hH : upd H3 b _ = H5
    have e8 : H5 D2 = some (.lst ((pos true l).map fun i : Nat => .int i)) := by rw [← hH, upd_ne (Ne.symm hbD)]; exact e8
    have s := s.app hH
    clear hH xn tg x2 x3 sG hwG ew er yG hbD
    refine ⟨_, rfl, s.x.tb hT, fun G xn tg => ?_⟩
    have yG : Xt (tK K) H5 G := .ex xn tg
    have sG := s.xt yG
    have hwG := sG.w
    have ⟨_, _, r, dx, n', ew, er⟩ := hwG
    refine ⟨_, rfl, u, _, _, rfl, ew, rfl, _, rfl, _, rfl, u, l, p, -1, rfl, hwG, fun j k ej ek hj => absurd ek (by omega), fun _ H2 x2 => ⟨"BadPlace", by decide +kernel, rfl, rfl, fun H3 x3 => ?_⟩⟩
    have s := sG.xt (x2.trans x3)
    have y3 := yG.trans (x2.trans x3)
    refine ⟨by exact (by decide : 1 ≤ sizeLine), fun a1 n1 => ?_⟩
    generalize hH : upd H3 a1 _ = H6
    have y4 := newE (lo := True) (T := tK K) hH n1
    have e4 := atE hH
    have s := s.xt y4
    clear hH n1
    refine ⟨_, _, _, _, rfl, rfl, s.e, e4, by exact (by decide : 3 ≤ sizeLine), fun b2 n2 => ?_⟩
    generalize hH : upd H6 b2 _ = H7
    have e8 := (y3.trans (y4.trans (newE hH n2))).lst e8
    have s := s.cat n2 hH
    clear hH n2 xn tg x2 x3 sG hwG ew er y4 e4 yG y3
    refine ⟨_, rfl, s.x.tb hT, fun G xn tg => ?_⟩
    have yG : Xt (tK K) H7 G := .ex xn tg
    have sG := s.xt yG
    have hwG := sG.w
    have ⟨_, _, r, dx, n', ew, er⟩ := hwG
    refine ⟨_, rfl, u, _, _, rfl, ew, rfl, _, rfl, _, rfl, u, _, _, rfl, ew, rfl, _, rfl, u, l, p, rfl, hwG, fun j ej _ G2 x1 => ?_, fun h => absurd hp (h p rfl)⟩
    obtain rfl : p = j := by omega
    refine ⟨u, l, p, _, rfl, hwG.xt x1, fun j k c ej ek _ hc => ?_, fun _ H2 x2 => ⟨"BadPlace", by decide +kernel, rfl, rfl, fun H3 x3 => ?_⟩⟩
    · exfalso
      obtain rfl : p = j := by omega
      have := (List.getElem?_eq_some_iff.mp hc).1
      omega
    have s := (sG.xt x1).xt (x2.trans x3)
    have y3 := (yG.trans x1).trans (x2.trans x3)
    refine ⟨by exact (by decide : 1 ≤ sizeLine), fun a1 n1 => ?_⟩
    generalize hH : upd H3 a1 _ = H8'
    have y4 := newE (lo := True) (T := tK K) hH n1
    have e4 := atE hH
    have s := s.xt y4
    clear hH n1
    refine ⟨_, _, _, _, rfl, rfl, s.e, e4, by exact (by decide : 4 ≤ sizeLine), fun b3 n2 => ?_⟩
    generalize hH : upd H8' b3 _ = H9'
    have e8 := (y3.trans (y4.trans (newE hH n2))).lst e8
    have s := s.cat n2 hH
    clear hH n2 xn tg x1 x2 x3 sG hwG ew er y4 e4 yG y3
    refine ⟨_, rfl, s.x.tb hT, fun G xn tg => ?_⟩
    have yG : Xt (tK K) H9' G := .ex xn tg
    have sG := s.xt yG
    have hwG := sG.w
    have ⟨_, _, r, dx, n', ew, er⟩ := hwG
    refine ⟨_, rfl, u, _, _, rfl, ew, rfl, _, rfl, _, rfl, u, l, p, -1, rfl, hwG, fun j k c ej ek => absurd ek (by omega), fun _ H2 x2 => ⟨"BadPlace", by decide +kernel, rfl, rfl, fun H3 x3 => ?_⟩⟩
    have s := sG.xt (x2.trans x3)
    have y3 := yG.trans (x2.trans x3)
    refine ⟨by exact (by decide : 1 ≤ sizeLine), fun a1 n1 => ?_⟩
    generalize hH : upd H3 a1 _ = Hm
    have y4 := newE (lo := True) (T := tK K) hH n1
    have e4 := atE hH
    have s := s.xt y4
    clear hH n1
    refine ⟨_, _, _, _, rfl, rfl, s.e, e4, by exact (by decide : 5 ≤ sizeLine), fun b4 n2 => ?_⟩
    generalize hH : upd Hm b4 _ = Hn
    have e8 := (y3.trans (y4.trans (newE hH n2))).lst e8
    have s := s.cat n2 hH
    clear hH n2 xn tg x2 x3 sG hwG ew er y4 e4 yG y3
    refine ⟨_, rfl, by exact (by decide : 1 ≤ sizeLine), fun p2 n2 => ?_⟩
    generalize hH : upd Hn p2 _ = Ho
    have xd := newE (lo := True) (T := tK K) hH n2
    have ed := atE hH
    clear hH n2
    refine ⟨p2, 5, _, rfl, rfl, ed, by decide, by decide, by exact (by decide : 1 * 5 ≤ sizeLine), fun p3 n3 => ?_⟩
    generalize hH : upd Ho p3 _ = Hp'
    have xe := newE (lo := True) (T := tK K) hH n3
    have ee : Hp' p3 = some (.lst (List.replicate 5 (.str "BadPlace"))) := by rw [atE hH]; exact congrArg (fun z => some (HO.lst z)) (rep_flat 5 _)
    clear hH n3
    have s := s.xt (xd.trans xe)
    have e8 := (xd.trans xe).lst e8
    refine neD_same (dp_reps s.e) (dp_reps ee) (sh_reps (by decide +kernel)) ⟨_, rfl, iteF ?_⟩
    clear ee xe xd ed
    have hwp := s.w
    have xp := s.x
    clear s
    -- bits that are no tree's
    have e1b : (Str.ofString "1" : Str) = sb [true] := sb_1
    have lcut : cutS (sb l) (some (1 : Int)) none = sb (l.drop 1) := by
      unfold cutS
      rw [show (1 : Int) = ((1 : Nat) : Int) from rfl, HT.sIx_nat]
      have h1 := W.pos
      rw [sb_len, Nat.min_eq_left (by omega)]
      show (⟨_⟩ : Str) = ⟨_⟩
      congr 2
      show ((l.map bc).drop 1).take _ = (l.drop 1).map bc
      rw [List.map_drop, List.take_of_length_le (by rw [List.length_drop, List.length_map]; show l.length - 1 ≤ l.length - 1; omega)]
    refine ⟨xp.tb hT, fun G xn tg => ?_⟩
    have yG : Xt (tK K) Hp' G := .ex xn tg
    refine ⟨_, rfl, ⟨_, rfl, sb l, rfl, hz, fun ub dub g1 g2 g3 => ?_⟩⟩
    have xm : Xt (tK K) G (upd (upd G dub (.own ub)) ub (.ins (He.ga K "Wood") dub [])) := (Xt.new g2).trans (.new (by rw [upd_ne (Ne.symm g3)]; exact g1))
    refine ⟨G, ub, dub, _, rfl, xm, .of g1, upd_same .., by rw [lcut, sb_len, List.length_drop]; omega, fun l' el W' => absurd W' ?_, fun _ H2 x2 => ⟨"BadBits", by decide +kernel, rfl, rfl, fun H3 x3 => ?_⟩⟩
    · rw [lcut] at el
      rw [← sb_inj el]
      exact even_not W (.inl (by rw [List.length_drop]; have := W.pos; omega))
    have y3 := yG.trans (x2.trans x3)
    refine ⟨by exact (by decide : 1 ≤ sizeLine), fun b na => ?_⟩
    generalize hH : upd H3 b _ = H4
    have s := BW.new (xp.trans y3) (hwp.xt y3) na hH
    have e8 := (y3.trans (newE hH na)).lst e8
    have notD : ∀ {i : Nat} {b : Addr} {H : Hp}, H D2 = some (.lst ((pos true l).map fun i : Nat => .int i)) → H b = some (.lst (List.replicate i (.str "BadBits"))) → D2 ≠ b := fun {i b H} h1 h2 z => by
      rw [← z, h1] at h2
      have h7 : ((pos true l).map fun i : Nat => V.int i) = List.replicate i (.str "BadBits") := by
        injection h2 with h2
        injection h2
      have h8 : V.int 0 ∈ List.replicate i (V.str "BadBits") := by
        rw [← h7]
        exact List.mem_map.mpr ⟨0, fr_mem.mpr ⟨len_of W.first, bt_iff.mpr W.first⟩, rfl⟩
      have := (List.mem_replicate.mp h8).2
      cases this
    clear hH na xn tg x2 x3 y3 yG xm g1 g2 g3
    refine ⟨_, rfl, .inl ⟨rfl, _, SqL.of s.e⟩, s.x.tb hT, fun G xn tg => ?_⟩
    have yG : Xt (tK K) H4 G := .ex xn tg
    refine fun ub dub g1 g2 g3 => ?_
    have xm : Xt (tK K) G (upd (upd G dub (.own ub)) ub (.ins (He.ga K "Wood") dub [])) := (Xt.new g2).trans (.new (by rw [upd_ne (Ne.symm g3)]; exact g1))
    refine ⟨G, ub, dub, _, rfl, xm, .of g1, upd_same .., by decide +kernel, fun l' el W' => absurd (sb_inj (sb_nil.symm.trans el)).symm W'.ne, fun _ H2 x2 => ⟨"BadBits", by decide +kernel, rfl, rfl, fun H3 x3 => ?_⟩⟩
    have y3 := yG.trans (x2.trans x3)
    have s := s.xt y3
    have e8 := y3.lst e8
    refine ⟨b, _, _, rfl, rfl, s.e, rep_len (by decide), ?_⟩
    generalize hH : upd H3 b _ = H5
    have e8 : H5 D2 = some (.lst ((pos true l).map fun i : Nat => .int i)) := by rw [← hH, upd_ne (notD e8 s.e)]; exact e8
    have s := s.app hH
    clear hH xn tg x2 x3 y3 yG xm g1 g2 g3
    refine ⟨_, rfl, .inl ⟨rfl, _, SqL.of s.e⟩, s.x.tb hT, fun G xn tg => ?_⟩
    have yG : Xt (tK K) H5 G := .ex xn tg
    refine ⟨_, rfl, _, _, rfl, rfl, by rw [e1b, sb_len, sb_len]; exact Nat.le_trans (show l.length + 1 ≤ 100 by omega) (by decide), fun ub dub g1 g2 g3 => ?_⟩
    have xm : Xt (tK K) G (upd (upd G dub (.own ub)) ub (.ins (He.ga K "Wood") dub [])) := (Xt.new g2).trans (.new (by rw [upd_ne (Ne.symm g3)]; exact g1))
    refine ⟨G, ub, dub, _, rfl, xm, .of g1, upd_same .., by rw [e1b, sb_app, sb_len, List.length_append]; exact Nat.le_trans (show l.length + 1 ≤ 100 by omega) (by decide), fun l' el W' => absurd W' ?_, fun _ H2 x2 => ⟨"BadBits", by decide +kernel, rfl, rfl, fun H3 x3 => ?_⟩⟩
    · rw [e1b, sb_app] at el
      rw [← sb_inj el]
      exact even_not W (.inr (by rw [List.length_append]; rfl))
    have y3 := yG.trans (x2.trans x3)
    have s := s.xt y3
    have e8 := y3.lst e8
    refine ⟨b, _, _, rfl, rfl, s.e, rep_len (by decide), ?_⟩
    generalize hH : upd H3 b _ = H6
    have e8 : H6 D2 = some (.lst ((pos true l).map fun i : Nat => .int i)) := by rw [← hH, upd_ne (notD e8 s.e)]; exact e8
    have s := s.app hH
    clear hH xn tg x2 x3 y3 yG xm g1 g2 g3
    refine ⟨_, rfl, by exact (by decide : 1 ≤ sizeLine), fun p2 n2 => ?_⟩
    generalize hH : upd H6 p2 _ = Hq
    have xd := newE (lo := True) (T := tK K) hH n2
    have ed := atE hH
    clear hH n2
    refine ⟨p2, 3, _, rfl, rfl, ed, by decide, by decide, by exact (by decide : 1 * 3 ≤ sizeLine), fun p3 n3 => ?_⟩
    generalize hH : upd Hq p3 _ = Hr
    have xe := newE (lo := True) (T := tK K) hH n3
    have ee : Hr p3 = some (.lst (List.replicate 3 (.str "BadBits"))) := by rw [atE hH]; exact congrArg (fun z => some (HO.lst z)) (rep_flat 3 _)
    clear hH n3
    have s := s.xt (xd.trans xe)
    have e8 := (xd.trans xe).lst e8
    refine neD_same (dp_reps s.e) (dp_reps ee) (sh_reps (by decide +kernel)) ⟨_, rfl, iteF ?_⟩
    have hws := s.w
    have xs := s.x
    clear ee xe xd ed s
    -- all is told as before
    refine ⟨_, rfl, _, rfl, by omega, by omega, fun D3 d3 => lcP (T := tK K) w_range d3 (by omega) (fun _ _ => trivial) (fun i => .int (((pos true l).getD i 0 : Nat) : Int)) ?_ fun Hs xt et => ?_⟩
    · intro i x H' hi hy x8 Q q
      subst hy
      have hi : i < n := by omega
      have hwi := hws.xt x8
      have ⟨_, _, r, dx, n', ew, er⟩ := hwi
      refine ⟨_, rfl, u, _, _, rfl, ew, rfl, _, rfl, u, l, _, rfl, hwi, fun j ej hj H9 x9 => ?_, fun h => absurd h (by have := W.len; omega)⟩
      obtain rfl : i = j := by omega
      have hj2 : i < (pos true l).length := by rw [pos_len]; omega
      rw [List.getElem?_eq_getElem hj2]
      rw [getD_some (List.getElem?_eq_getElem hj2)] at q
      exact q H9 x9
    rw [nats_ext (by rw [pos_len]; omega)] at et
    refine ⟨_, rfl, neD_same (dp_nats et) (dp_nats (xt.lst e8)) sh_ints ⟨_, rfl, iteF ⟨xs.trans xt, _, rfl, rfl⟩⟩⟩
end
end Tw

set_option maxHeartbeats 0
namespace Tw
open PySem PySem.Spec PyProof.Rows L2 LamX
theorem law_at {w : World} {K : PySem.W.Frag} {mg : Str → Option Value} {fa : Addr} {h : Heap} (X : K.In h) (G : h.Ns mainGlobals mg) (hfa : mg ("law" : Str) = some (.ref fa)) (c : He.SaysX faL fnL [] tf exL w h K) :
    LamX.LawAtS PySem.Challenge.rw_tersewood_k62_no_such_nodes w K (L2N.CX PySem.Challenge.rw_tersewood_k62_no_such_nodes.prog w) 214 63 "_law_script" mg fa h := by
  have T : Tx K mg := ⟨⟨h, X, G, c.t.d⟩, c.more⟩
  have e := hfa.symm.trans T.g_law
  cases e
  refine ⟨fdOf K ("law", none), tf.map (He.cT K), spLaw K, fun p hp => ?_, fun p hp => ?_, fun p hp => ?_, fun s u => T.F_law.bindsA (ps := ["_law_script"]) (fun _ _ _ _ _ _ us hl => match us, hl with | [_], _ => rfl) s [u] rfl, fun H a ns hl hb hT hS => ?_, fun base KB GB hB => ok_law T (hB _ (List.mem_map_of_mem (f := He.cT K) (show (("_law_deeds", none) : He.Defn) ∈ tf by decide +kernel))) (hB _ (List.mem_map_of_mem (f := He.cT K) (show (("law", none) : He.Defn) ∈ tf by decide +kernel)))⟩
  · obtain ⟨d, hd, rfl⟩ := List.mem_map.mp hp
    exact c.empty d hd
  · obtain ⟨d, hd, rfl⟩ := List.mem_map.mp hp
    exact c.out d hd
  · obtain ⟨d, hd, rfl⟩ := List.mem_map.mp hp
    exact PySem.W.codeHd_of_K X (c.hd d hd)
  · refine spLaw_of hS hl hb fun p hp => ?_
    unfold tK at hp
    simp only [List.mem_cons, List.not_mem_nil, or_false] at hp
    rcases hp with rfl | rfl
    · exact TabS.nil (hT _ (List.mem_map_of_mem (f := He.cT K) (show (("_law_deeds", none) : He.Defn) ∈ tf by decide +kernel)))
    · exact TabS.nil (hT _ (List.mem_map_of_mem (f := He.cT K) (show (("law", none) : He.Defn) ∈ tf by decide +kernel)))
end Tw
open PySem PySem.W PySem.Calls PyProof.Rows
theorem PySem.Challenge.cw_tersewood_k62_no_such_nodes_holds : PySem.Challenge.rw_tersewood_k62_no_such_nodes.Holds := by
  w_on; o_law
  refine HandSHeadRun.head_any (r := OpenLaw.row PySem.Challenge.rw_tersewood_k62_no_such_nodes) (q := view (OpenLaw.row PySem.Challenge.rw_tersewood_k62_no_such_nodes).prog [36]) (H := Tw.hk) (ob := Tw.ob) (M := 30000) (loose := Tw.loose) (d := HandSHeadRun.topDef (OpenLaw.row PySem.Challenge.rw_tersewood_k62_no_such_nodes).prog 36) (kwd := []) Tw.ob_eq
    (by kernel_rfl) (fun s => by kernel_rfl) Tw.run (by kernel_rfl) (by kernel_rfl) (by kernel_rfl) (by rfl) (by first | assumption | decide +kernel) (by decide +kernel) ⟨rfl, rfl, rfl, rfl, rfl, by decide +kernel⟩ ?hw ?hc
  case hw => w_witness2
  case hc =>
    refine LamX.walk_ofTsE (l := PySem.Challenge.rw_tersewood_k62_no_such_nodes) (n := 63) (k := 214) (x := "_law_script") (CX := fun w => L2N.CX PySem.Challenge.rw_tersewood_k62_no_such_nodes.prog w) rfl (by decide) (by kernel_rfl) ⟨rfl, by decide, by decide⟩ ?F (fun w H s e s2 z => ?_)
    · intro w mg fa h Y G hmg0
      obtain ⟨K, KX, c⟩ := Y
      have hmg : mg ("law" : PySem.Str) = some (.ref fa) := by
        have e : (HandSHeadRun.topDef (OpenLaw.row PySem.Challenge.rw_tersewood_k62_no_such_nodes).prog 36).name = ("law" : PySem.Str) := by kernel_rfl
        rw [← e]
        exact hmg0
      exact ⟨K, KX, Tw.law_at KX G hmg c⟩
    · obtain ⟨_, _, _, _, _, _, _, _, _, _, _, _, z⟩ := z
      exact z
