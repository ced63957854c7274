import PyProof.Rows.All
import Wide.All
import OpenK.AllK
import Wide.FinOn
import KE.KStateDown
import Lean
import HandS.ForMost
import HandS.Exc
import HandS.TryOnly
import HandS.ExcOwn
import HandS.ExcCtx
import HandS.HotCalls
import HandS.ExcIs
import HandS.Lambda
import PyProof.SumAny
import HandS.Comp
import HandS.Defaults
import HandS.IsInst
import HandS.HeadHook1
import HandS.HeadHook2
import HandS.WordsExc
import HandS.Wide
import HandS.Evl
import HandS.SortInts
import HandS.HeadHook3
import HandS.HeadHook4
import HandS.StrMore
import HandS.Head0
import HandS.Head1
import HandS.Head2
import HandS.HeadEnd
import HandS.HeadWalk
import HandS.Walk
import HandS.NestedK
import PyProof.P3Eq
import PyProof.StrBlock2
import PyProof.StrLawsFrom
import KE.GoesEnum
import HandS.Style
import PyProof.Rows.StrRev
import HandS.More
import HandS.WordsDict
import HandS.Conv
import PyProof.Rows.SortShellAny
import HandS.EndTab
import PySem.Challenge.RW_tersewood_k80_whole_fewest
set_option Elab.async false
set_option linter.all false
set_option maxRecDepth 100000
set_option maxHeartbeats 4000000
namespace Tw
open PySem PySem.Spec PyProof.Rows L2 LamX
/-! ### a lambda called where what it lets out has no context (L2N) -/
section
variable {X : Cx} {pins : List (Addr × Obj)} {σ : L2.St} {H HZ : Hp} {s s1 : Shared}
/-- the wish of the lambda's frame -/
def lamW (X : Cx) (A : Around) (outer : List Env) (s : Shared) (H : Hp) (E : XK) (scope : Scope) (f c' : Addr) : Value → Shared → Prop :=
  fun e s' => wpAny (model X.prog X.w) (A.deeper (lamEnv X scope s.heap.objs.size f c')) (leaving (lamEnv X scope s.heap.objs.size f c') e)
    (fun _ s'' => L2N.CX X.prog X.w outer H s E e s'') (fun e' s'' => L2N.CX X.prog X.w outer H s E e' s'') s'
/-- the lambda's context, in L2N -/
def lamN (X : Cx) (A : Around) (outer : List Env) (s : Shared) (H : Hp) (E : XK) (scope : Scope) (f c' : Addr) : Cx :=
  (lamCx X A outer s H E scope f c').wish (lamW X A outer s H E scope f c')
theorem lamN_takes {A : Around} {outer : List Env} {E : XK} {scope : Scope} {f c' : Addr} :
    L2N.Takes (lamN X A outer s H E scope f c') (fun cls d _ H => E cls d H) :=
  L2N.takes_of (E₁ := fun e' s'' => L2N.CX X.prog X.w outer H s E e' s'') rfl rfl rfl rfl
/-- the call of a name that holds the lambda, in the def that got it -/
theorem act {CXg : CXT} {Eg : XK} {Ng : List Str} {qg : Str} {sg : Scope} {g f c' : Addr} {cdg pm ctv : Value} {params : Arguments} {body : Expr} {scope : Scope} {k i : Nat} {a : Str}
    {pn : List (Addr × Obj)} {xe : Value → Shared → Prop} {W : WX} {E : XK} {tb : TE} {p1 p2 : Pos}
    (I : Inv X pins σ H s) (L : LamS X.env.scope scope)
    (hf : s.heap.get? f = some (PySem.W.kla_obj "<lambda>" (X.env.qual ++ "<lambda>") params body scope (cloFrom X.env.cells scope.names []) pm c' ctv)) (hfn : H f = none) (hfr : f ∉ frs X.stack)
    (hbind : bindArgs (PySem.W.kla_fn "<lambda>" (X.env.qual ++ "<lambda>") params body scope (cloFrom X.env.cells scope.names []) pm (.ref c') ctv) ⟨[], []⟩ = pure [])
    (tk : L2N.Takes ((cxOf CXg X.prog X.w X.K X.mg X.base Ng qg sg g cdg X.A X.stack s H Eg).tr pn xe) W)
    (hW : ∀ cls d σ' H', E cls d H' → W cls d σ' H') (hr : Room (k + 1) (X.A.deeper (envOfC qg sg s.heap.objs.size g cdg)))
    (hbody : ∀ (A : Around) (outer : List Env) (s : Shared) (H : Hp), Room k (A.deeper (lamEnv X scope s.heap.objs.size f c')) → PE (lamN X A outer s H E scope f c') body tb)
    (hN : Ng[i]? = some a) (hv : Vis sg a) (hd : (a == ("__debug__" : Str)) = false) (hcd : (a == ("__classdict__" : Str)) = false) :
    PE ((cxOf CXg X.prog X.w X.K X.mg X.base Ng qg sg g cdg X.A X.stack s H Eg).tr pn xe) (.Call (.Name a p1) [] [] p2)
      (fun σZ HZ Q => σZ[i]? = some (some (.ref f)) ∧ HZ c' = some (CodeO c' (X.env.qual ++ "<lambda>")) ∧ tb σ HZ Q) := by
  constructor
  intro pinsZ sZ σZ HZ Q IZ ⟨hs, hc, ht⟩
  refine wpAny_Call_Name_kw (thn ((pe_var (pos := p1) (i := i) hN hv hd hcd).run pinsZ sZ σZ HZ (fun v H1 => v = .ref f ∧ H1 = HZ) IZ ⟨.ref f, hs, rfl, rfl⟩) fun u s1 ⟨v, H1, I1, r1, ev, eH⟩ => ?_)
  subst ev eH
  obtain rfl : u = Value.ref f := r1
  have un : Un (frs X.stack) [] H H1 s.heap s1.heap := I1.base
  have of1 := un.keep f _ hf hfn hfr (List.not_mem_nil)
  refine PySem.W.callWith_F0 ⟨_, _, _, _, of1⟩ ?_
  obtain ⟨⟨oc, vs, t, hoc, hdc, hvc⟩, _, _⟩ := I1.hok c' _ hc
  have rc : codeAny (model X.prog X.w) (X.A.deeper (envOfC qg sg s.heap.objs.size g cdg)) (.call (.ref f) ⟨[], []⟩) (CR (L2N.CX X.prog X.w) (envOfC qg sg s.heap.objs.size g cdg :: X.stack) X.prog X.w H1 s1 Q E) s1 := by
    refine PySem.W.kla_callFunE hr.depth of1 rfl L.co L.gen rfl ⟨c', oc, vs, t, rfl, hoc, hdc, hvc⟩ ?_
    rw [hbind]
    refine wpAny_pure (wpAny_newFunctionEnv (fun y hy => (L.own y hy).2) (fun y hy => absurd hy List.not_mem_nil) (fun h₁ hns hsb => ⟨I1.nolimit.fresh _ hsb, ?_⟩) L.kind)
    have kp : ∀ b o, s1.heap.get? b = some o → h₁.get? b = some o := fun b o e => hsb.extBut b o (Nat.ne_of_lt (Heap.lt_size e)) (Heap.get?_push_of_some _ e)
    have J := (lam_start2 (E := E) (A := X.A.deeper (envOfC qg sg s.heap.objs.size g cdg)) (outer := envOfC qg sg s.heap.objs.size g cdg :: X.stack) (f := f) (c' := c') (tk := s1.toks + ([] : List (Str × Value)).length) I L I1.env0 hr.hd un hns kp).wish
      (lamW X (X.A.deeper (envOfC qg sg s.heap.objs.size g cdg)) (envOfC qg sg s.heap.objs.size g cdg :: X.stack) s1 H1 E scope f c')
    refine PySem.W.kla_codeExpr (wpAny_mono ((hbody _ _ s1 H1 (hr.deeper _)).run [] _ _ H1 Q J ht) (fun v s' hq => ?_) fun e s' hq => hq)
    obtain ⟨w', H', J', rv, q⟩ := hq
    exact ⟨w', H', J'.os, J'.bare, J'.base, J'.hok, rv, q⟩
  refine wpAny_call (codeAny_mono rc fun r s' hq => ?_)
  cases r with
  | error e => exact L2N.passes_call tk hW pinsZ σZ H1 s1 e s' I1 hq
  | ok fl =>
    cases fl with
    | ret u => exact I1.after hq
    | next => exact hq.elim
    | brk => exact hq.elim
    | cont => exact hq.elim
end
end Tw

set_option maxHeartbeats 4000000
namespace Tw
open PySem PySem.Spec PyProof.Rows L2 HotX L2H
/-! ### lists walked while an exception is handled -/
section
variable {prog : Program} {w : World} {A : Around} {E : Value → Shared → Prop} {s : Shared}
/-- the list iterator's end, where an exception without a context is handled -/
theorem list_end_hot {it l x1 : Addr} {i : Nat} {items : Array Value} {Q : Option Value → Shared → Prop} (hot : HotAt A x1 s.heap) (hit : s.heap.IsListIter it l i) (hl : s.heap.IsList l items) (hx : items[i]? = none) (hne : x1 ≠ it)
    (hQ : ∀ h', Heap.ExtBut it s.heap h' → Q none { s with heap := h' }) : wpAny (model prog w) A (pyNext (.ref it)) Q E s := by
  obtain ⟨o, ho, hc, hd⟩ := id hit
  obtain ⟨ol, hol, _, nl, hdl⟩ := hl
  obtain ⟨hh, o1, vs1, h1, d1, c1⟩ := hot
  unfold pyNext
  refine wpAny_bind (wpAny_attempt (wpAny_callSpecial?_slot (name := Str.ofString "__next__") hit.typeIs slot_listiter_next (wpAny_call_entry slot_listiter_next hit.typeIs entry_listiter_next ?_ (args_listiter_next _))))
  show wpAny _ _ (field (.ref it) 0 >>= _) _ _ s
  refine wpAny_bind (wpAny_field ho hd (x := .ref l) rfl ?_)
  show wpAny _ _ (if (Value.ref l == Value.none) = true then _ else _) _ _ s
  rw [if_neg (show ¬ ((Value.ref l == Value.none) = true) from Bool.false_ne_true)]
  show wpAny _ _ (field (.ref it) 1 >>= _) _ _ s
  refine wpAny_bind (wpAny_field ho hd (x := .int i 0) rfl ?_)
  show wpAny _ _ (seqItems? (.ref l) >>= _) _ _ s
  refine wpAny_bind (wpAny_seqItems hol hdl ?_)
  simp only [Int.toNat_natCast, hx]
  refine wpAny_bind (wpAny_rule (wpAny_bind (wpAny_setField ho hd (by simp) ?_)))
  show wpAny _ _ (newExc (.type "StopIteration") [] >>= _) _ _ _
  refine wpAny_bind ?_
  simp only [newExc, newTuple]
  refine wpAny_bind (wpAny_newObj_type ?_ (by size_fits))
  refine wpAny_bind (m := firstArgMember _ _) (wpAny_of_eq (a := Value.none) (by first | rfl | (simp only [firstArgMember]; rfl)) ?_)
  refine wpAny_newObj_type ?_ (by size_fits)
  have k1 : ∀ (b : Addr) (u : Obj), b ≠ it → s.heap.get? b = some u → ∀ (f : Obj → Obj) (p q : Obj), (((s.heap.update it f).push p).push q).get? b = some u := fun b u hb e f p q =>
    Heap.get?_push_of_some _ (Heap.get?_push_of_some _ ((Heap.get?_update_other _ _ (Ne.symm hb)).trans e))
  have kx := k1 x1 o1 hne h1
  refine raiseNew_hot ⟨hh, o1, vs1, kx _ _ _, d1, c1⟩ (Nat.ne_of_lt (Heap.lt_size (Heap.get?_push_of_some _ ((Heap.get?_update_other _ _ (Ne.symm hne)).trans h1)))) (Heap.get?_push_size _ rfl) rfl (by first | (simp; done) | (simp; omega) | (simp only [Array.size_append]; simp; omega)) ?_
  refine wpAny_bind (wpAny_isInstance (T := "StopIteration") (b := true) ⟨_, Heap.get?_update_self _ (Heap.get?_push_size _ rfl) rfl, rfl⟩ isSubtype_stop ?_)
  refine wpAny_pure (hQ _ fun b u hb e => ?_)
  rw [Heap.get?_update_other _ _ (Nat.ne_of_gt (Heap.lt_size (Heap.get?_push_of_some _ ((Heap.get?_update_other _ _ (Ne.symm hb)).trans e))))]
  exact k1 b u hb e _ _ _
end

/-- a list walked there, for the library's sum -/
theorem walks_hot {prog : Program} {w : World} {A : Around} {x1 : Addr} {o1 : Obj} {vs1 : Array Value} (hh : A.handled = some (.ref x1)) (d1 : o1.data = .fields vs1) (c1 : vs1[2]? = some .none) (I ax : Addr) (hne : ax ≠ I) (hx : x1 ≠ I) (items : Array Value) :
    Walks prog w A I [I, ax, x1] [I] items.size (fun i v => items[i]? = some v) (fun i h => h.IsListIter I ax i ∧ h.IsList ax items ∧ h.get? x1 = some o1) where
  sub := fun b hb => by
    have e : b = I := List.mem_singleton.mp hb
    rw [e]
    exact List.mem_cons_self
  frame := fun _ _ _ st hk => ⟨st.1.at fun o e => hk I (by simp) o e, st.2.1.at fun o e => hk ax (by simp) o e, hk x1 (by simp) _ st.2.2⟩
  item := fun i s Q E hi st hQ => by
    refine wpAny_pyNext_list_item st.1 st.2.1 (x := items[i]) (by simp [hi]) fun h' hit' hs' => ?_
    exact hQ _ h' s.toks (by simp [hi]) ⟨hit', st.2.1.extBut hs'.extBut hne, hs'.extBut x1 _ hx st.2.2⟩ fun b o hb e => hs'.extBut b o (fun h => hb (by simp [h])) e
  done := fun s Q E st hQ => by
    refine list_end_hot ⟨hh, o1, vs1, st.2.2, d1, c1⟩ st.1 st.2.1 (by simp) hx fun h' eb => ?_
    exact hQ h' s.toks fun b o hb e => eb b o (fun h => hb (by simp [h])) e
  self := fun i s Q E st h => wpAny_pyIter_listiter st.1 h
section
variable {X : Cx} {pins : List (Addr × Obj)} {σ : L2.St} {H : Hp} {s : Shared}
/-- sum(xs) there -/
theorem cr_sumH (hc : HotC X) : CallR X (.builtin "sum") (rSum X.K) := by
  intro pins s σ H vs us Q I r h
  obtain ⟨a, ns, rfl, hs, q⟩ := h
  obtain ⟨its, rv, hl, _⟩ := I.list hs
  rw [Vals.ref1 r]
  obtain ⟨p, ⟨hh, v1, e1, c1⟩, hp⟩ := hc
  have P1 := (I.pin p (List.mem_append_left _ hp)).1
  have hi := rv.ints
  obtain ⟨xs, e⟩ := hi.allInts.items
  have hn : numsOf (intItems xs).toList = ns := by rw [← e]; exact hi.numsOf
  rw [nums_intItems] at hn
  have hl2 := hl.isList
  rw [e] at hl2
  refine call_sum_walkG (iter_intList hl2 fun s₂ es st hfp hlI => ?_)
  have k2 : ∀ b o, s.heap.get? b = some o → s₂.heap.get? b = some o := fun b o e => by
    rw [es]
    exact Heap.get?_push_of_some _ e
  have hx : p.1 ≠ s.heap.objs.size := Nat.ne_of_lt (Heap.lt_size P1)
  subst es
  refine ⟨_, _, _, _, _, _, numAt xs, rfl, walks_hot (A := X.A.in1) hh e1 c1 _ a hlI hx (intItems xs), ⟨st.1, st.2, k2 _ _ P1⟩, fun b hb => ?_, (fun _ _ => intItems_at), fun h' tk t' hk => ?_⟩
  · have hb2 : b = s.heap.objs.size ∨ b = a ∨ b = p.1 := by simpa using hb
    rcases hb2 with e | e | e
    · exact hfp b (by simp [e])
    · exact hfp b (by simp [e])
    · rw [e]
      exact Heap.lt_size (k2 _ _ P1)
  · refine ⟨.int _, H, I.kept (h' := h') (t' := tk) (old_kept hk), ⟨t', rfl⟩, ?_⟩
    have e4 : preSum (numAt xs) (intItems xs).size = ns.sum := by
      rw [show (intItems xs).size = xs.size by simp [intItems], preSum_eq, List.take_of_length_le (by simp), hn]
    rw [e4]
    exact q
end
end Tw

set_option maxHeartbeats 4000000
namespace Tw
open PySem PySem.Spec PyProof.Rows L2 HotX L2H
section
variable {X : Cx} {pins : List (Addr × Obj)} {σ : L2.St} {H : Hp} {s : Shared} {a it : Addr} {xs : List V} {i : Nat}
theorem list_item_any {A : Around} {E : Value → Shared → Prop} {x : V} (I : Inv X pins σ H s) (hq : SqL X.K H a xs) (hx : xs[i]? = some x) (st : s.heap.IsListIter it a i) (f : FpOk X pins H it) {Q : Option Value → Shared → Prop}
    (q : ∀ u s1, RelV x u → Inv X pins σ H s1 → s1.heap.IsListIter it a (i + 1) → Q (some u) s1) : wpAny (model X.prog X.w) A (pyNext (.ref it)) Q E s := by
  obtain ⟨its, rv, p, hz⟩ := I.list hq
  obtain ⟨u, hu, ru⟩ := rv.get hx
  obtain ⟨f0, f1, f2, f3, f4, f5⟩ := f
  refine wpAny_pyNext_list_item st p.isList (x := u) (by simpa using hu) fun h' st' sb => ?_
  exact q u _ ru (I.turned (t' := s.toks) (fun b o hb e => (sb.2 b hb).trans e) f0 f1 f3 f4 f5) st'
theorem list_done_hot {A : Around} {E : Value → Shared → Prop} {x1 : Addr} (I : Inv X pins σ H s) (hot : HotAt A x1 s.heap) (hq : SqL X.K H a xs) (hx : xs.length ≤ i) (st : s.heap.IsListIter it a i) (f : FpOk X pins H it) (hne : x1 ≠ it) {Q : Option Value → Shared → Prop}
    (q : ∀ s1, Inv X pins σ H s1 → Q none s1) : wpAny (model X.prog X.w) A (pyNext (.ref it)) Q E s := by
  obtain ⟨its, rv, p, hz⟩ := I.list hq
  obtain ⟨f0, f1, f2, f3, f4, f5⟩ := f
  have hl := rv.length
  exact list_end_hot hot st p.isList (by simp; omega) hne fun h' eb => q _ (I.turned (t' := s.toks) (fun b o hb e => eb b o hb e) f0 f1 f3 f4 f5)
end
section
variable {X : Cx}
/-- [elt for target in l] where an exception is handled; the list l stands still -/
def tLcH (K : PySem.W.Frag) (tl : TE) (g : TG) (te : TE) (vs : List Nat) : TE := fun σ H Q => tl σ H fun x H1 => ∃ a xs, x = .ref a ∧ SqL K H1 a xs ∧ ∀ D, H1 D = none → ∃ W : Nat → Hp → Prop, W 0 (upd H1 D (.lst [])) ∧ (∀ i H, W i H → SqL K H a xs) ∧
  (∀ i x H, xs[i]? = some x → W i H → g x (wipe σ vs) H fun σ2 H2 => wipe σ2 vs = wipe σ vs ∧ te σ2 H2 fun y H4 => ∃ acc, H4 D = some (.lst acc) ∧ acc.length < sizeLine ∧ W (i + 1) (upd H4 D (.lst (acc ++ [y])))) ∧
  (∀ H, W xs.length H → Q (.ref D) H)
theorem pe_lcH {elt tg iter : Expr} {scope : Scope} {own : List (Str × Nat)} {pos : Pos} {tl : TE} {g : TG} {te : TE} (hc : HotC X) (hN : X.N.Nodup) (hl : PE X iter tl) (ok : BlkOk X.N X.env.scope scope own)
    (hg : ∀ (s : Shared) (H : Hp) (C : Addr) (cl : List (Str × Addr)) (fp : List Addr), PG (X.blk s H scope (compEnvC scope cl C X.env) fp) tg g)
    (he : ∀ (s : Shared) (H : Hp) (C : Addr) (cl : List (Str × Addr)) (fp : List Addr), PE (X.blk s H scope (compEnvC scope cl C X.env) fp) elt te) (hs : ∀ x, foldedSetIterable iter X.env x = pure x := by intro _; rfl) :
    PE X (.ListComp elt [⟨tg, iter, [], 0⟩] scope pos) (tLcH X.K tl g te (own.map (·.2))) := by
  refine ⟨fun pins s σ H Q I h => ?_⟩
  rw [eval_ListComp]
  have hfree : ∀ y ∈ scope.names, y.2 = .free → ∃ c, X.env.cells.lookup y.1 = some c := fun y hy e => by
    rcases ok.free y hy e with k | k
    · exact I.ok.has _ (.inl k)
    · exact I.ok.has _ (.inr k)
  obtain ⟨p, ⟨hh, v1, e1, c1⟩, hp⟩ := hc
  refine wpAny_comprehension_free (use := none) rfl hs (closure_ok hfree) ok.kind (fun y hy e => by rw [ok.uniq y hy, e]) ?_
  refine thn (hl.run pins s σ H _ I h) fun v s1 ⟨x, H1, I1, r1, a, xs, ex, hq, step⟩ => ?_
  subst ex
  cases r1
  obtain ⟨its, rv, pl, hz⟩ := I1.list hq
  refine wpAny_pyIter_list pl.isList ?_
  -- the iterator, the new list, the block's frame
  generalize hit : s1.heap.objs.size = it
  have I2 : Inv X pins σ H1 { s1 with heap := s1.heap.push { cls := .type "list_iterator", data := .fields #[.ref a, .int 0 0] } } := I1.kept (t' := s1.toks) fun b o e => Heap.get?_push_of_some _ e
  have f2 : FpOk X pins H1 it := by
    have z := I1.fpOk (H' := H1) (b := it) (by rw [← hit]; exact Nat.le_refl _) (I1.hok.fresh (by rw [← hit]; exact Nat.le_refl _))
    exact z
  have st2 : ({ s1 with heap := s1.heap.push { cls := .type "list_iterator", data := .fields #[.ref a, .int 0 0] } } : Shared).heap.IsListIter it a 0 := ⟨_, by rw [← hit]; exact Heap.get?_push_size _ rfl, rfl, rfl⟩
  generalize ({ s1 with heap := s1.heap.push { cls := .type "list_iterator", data := .fields #[.ref a, .int 0 0] } } : Shared) = s2 at I2 st2 ⊢
  refine wpAny_newObj_type (newEnv_comp ?_) (by show 0 ≤ sizeLine; decide)
  generalize hD : s2.heap.objs.size = D
  have hDn : H1 D = none := I2.hok.fresh (Nat.le_of_eq hD)
  obtain ⟨W, w0, wl, wt, we⟩ := step D hDn
  generalize hs3 : ({ s2 with heap := s2.heap.push { cls := .type "list", data := .seq ([] : List Value).toArray } } : Shared) = s3
  have h3 : s3.heap = s2.heap.push { cls := .type "list", data := .seq ([] : List Value).toArray } := by rw [← hs3]
  have I3 : Inv X pins σ (upd H1 D (.lst [])) s3 := by
    rw [← hs3]
    refine I2.laid (t' := s2.toks) (fun b o e => Heap.get?_push_of_some _ e) (Nat.le_of_eq hD) ⟨Nat.zero_le _, [], 0, .nil, ?_⟩
    rw [← hD]
    exact Heap.get?_push_size _ rfl
  have ltI : it < s2.heap.objs.size := by
    obtain ⟨o, e, _⟩ := st2
    exact Heap.lt_size e
  have f3 : ∀ b ∈ [it], FpOk X pins (upd H1 D (.lst [])) b ∧ b < s3.heap.objs.size := fun b hb => by
    have eb : b = it := List.mem_singleton.mp hb
    subst eb
    refine ⟨⟨?_, f2.2⟩, by rw [h3, Heap.size_push]; exact Nat.lt_succ_of_lt ltI⟩
    rw [upd_ne (by rw [← hD]; exact Nat.ne_of_lt ltI)]
    exact f2.1
  have st3 : s3.heap.IsListIter it a 0 := st2.at fun o e => by rw [h3]; exact Heap.get?_push_of_some _ e
  have P3 := I3.pin p (List.mem_append_left _ hp)
  have hx1 : p.1 ≠ it := (f3 it List.mem_cons_self).1.2.2.2.2.2 p (List.mem_append_left _ hp)
  have I4 := block_start I3 ok hN f3
  have pg := hg s3 (upd H1 D (.lst [])) s3.heap.objs.size (cellsFrom (s3.heap.objs.size + 1) scope.names (cloFrom X.env.cells scope.names [])) [it]
  have pe := he s3 (upd H1 D (.lst [])) s3.heap.objs.size (cellsFrom (s3.heap.objs.size + 1) scope.names (cloFrom X.env.cells scope.names [])) [it]
  show codeAny _ _ (.compStart (.ListComp elt [⟨tg, iter, [], 0⟩] scope pos) 0 (.ref it) (.ref D) (compEnvC scope (cellsFrom (s3.heap.objs.size + 1) scope.names (cloFrom X.env.cells scope.names [])) s3.heap.objs.size X.env)) (compPost (model X.prog X.w) X.A X.xe none (EP X pins σ Q) (.ref D) s3.heap.objs.size) { s3 with heap := pushCells (s3.heap.push { cls := .type "dict", data := .dict #[] }) scope.names }
  generalize hce : compEnvC scope (cellsFrom (s3.heap.objs.size + 1) scope.names (cloFrom X.env.cells scope.names [])) s3.heap.objs.size X.env = ce at I4 pg pe ⊢
  have cL : ce.locals = s3.heap.objs.size := by subst hce; rfl
  generalize hH3 : upd H1 D (.lst []) = H3 at I3 I4 pg pe w0 f3 P3
  generalize hs4 : ({ s3 with heap := pushCells (s3.heap.push { cls := .type "dict", data := .dict #[] }) scope.names } : Shared) = s4 at I4 ⊢
  have k4 : ∀ b o, s3.heap.get? b = some o → s4.heap.get? b = some o := fun b o e => by
    rw [← hs4]
    exact pushCells_keeps _ _ _ _ (Heap.get?_push_of_some _ e)
  have st4 : s4.heap.IsListIter it a 0 := st3.at fun o e => k4 _ _ e
  have J4 : Inv (X.blk s3 H3 scope ce [it]) [p] (wipe σ (own.map (·.2))) H3 s4 := I4.pins_of fun q hq => by
    have eq : q = p := List.mem_singleton.mp hq
    subst eq
    refine ⟨k4 _ _ P3.1, P3.2.1, ?_, fun z => ?_, P3.2.2.2.2⟩
    · show q.1 ≠ ce.locals
      rw [cL]
      exact Nat.ne_of_lt (Heap.lt_size P3.1)
    · exact (List.mem_cons.mp (I3.stkSub q.1 z)).elim P3.2.2.1 P3.2.2.2.1
  have stat : ∀ {σ' : L2.St} {H' : Hp} {s' : Shared}, Inv (X.blk s3 H3 scope ce [it]) [p] σ' H' s' → H' it = none → FpOk (X.blk s3 H3 scope ce [it]) [p] H' it := fun {σ' H' s'} I' hn =>
    ⟨hn, (I'.ok.exf it List.mem_cons_self).1, I'.ok.exfs it List.mem_cons_self, .inl List.mem_cons_self, fun x c e => (I'.ok.exf it List.mem_cons_self).2 x c e, fun q hq => by
      have eq : q = p := by simpa using (show q ∈ ([] : List (Addr × Obj)) ++ [p] from hq)
      rw [eq]
      exact hx1⟩
  have loop : codeAny (model X.prog X.w) X.A (.compLoop (.ListComp elt [⟨tg, iter, [], 0⟩] scope pos) 0 (.ref it) (.ref D) ce) (compPost (model X.prog X.w) X.A X.xe none (EP X pins σ Q) (.ref D) s3.heap.objs.size) s4 := by
    refine compLoop_any (fun n s' => ∃ i H', i + n = xs.length ∧ Inv (X.blk s3 H3 scope ce [it]) [p] (wipe σ (own.map (·.2))) H' s' ∧ s'.heap.IsListIter it a i ∧ H' it = none ∧ W i H') ?_ xs.length ⟨0, H3, Nat.zero_add _, J4, st4, (f3 it List.mem_cons_self).1.1, w0⟩
    rintro n s5 ⟨i, H5, ein, I5, st5, n5, w5⟩
    have P5 := I5.pin p (by simp)
    have hot5 : HotAt X.A p.1 s5.heap := ⟨hh, p.2, v1, P5.1, e1, c1⟩
    have q5 : SqL X.K H5 a xs := wl i H5 w5
    cases n with
    | zero =>
      refine list_done_hot I5 hot5 q5 (by omega) st5 (stat I5 n5) hx1 fun s6 I6 => ?_
      have ei : i = xs.length := by omega
      rw [ei] at w5
      have I7 : Inv X pins σ H5 s6 := I3.call' (ch := [it]) I6.os I6.base I6.hok I6.bare fun b hb => ⟨(f3 b hb).1.2.2.2.1, (f3 b hb).1.2.1, (f3 b hb).1.2.2.2.2.1, (f3 b hb).1.2.2.2.2.2⟩
      have nC : H5 s3.heap.objs.size = none := by
        have z : H5 ce.locals = none := I6.free
        rw [cL] at z
        exact z
      obtain ⟨m, hn, _⟩ := I6.loc
      have hn : s6.heap.Ns ce.locals m := hn
      rw [cL] at hn
      refine ⟨m, hn, fun h'' sb => ?_⟩
      obtain ⟨f0, f1, f2, f3, f4, f5⟩ := I3.fpOk (Nat.le_refl _) nC
      exact ⟨.ref D, H5, I7.turned (t' := s6.toks) (fun b o hb e => (sb.2 b hb).trans e) f0 f1 f3 f4 f5, rfl, we H5 w5⟩
    | succ n =>
      have hi : i < xs.length := by omega
      have hx : xs[i]? = some xs[i] := List.getElem?_eq_getElem hi
      refine list_item_any I5 q5 hx st5 (stat I5 n5) fun u s6 ru I6 st6 => ?_
      obtain ⟨oi, ei, ci, di⟩ := id st6
      refine go_of ei ci di (by decide) ?_
      have I6' : Inv (X.blk s3 H3 scope ce [it]) ([p] ++ [(it, oi)]) (wipe σ (own.map (·.2))) H5 s6 := I6.pins_of fun q hq => by
        rcases List.mem_append.mp hq with z | z
        · exact I6.pin q (List.mem_append_right _ z)
        · have eq : q = (it, oi) := List.mem_singleton.mp z
          subst eq
          obtain ⟨g0, g1, g2, _⟩ := stat I6 n5
          exact ⟨ei, g0, g1, g2, fun v z => by rw [di] at z; cases z⟩
      refine thnF (pg.run _ s6 _ H5 xs[i] u _ I6' ru (wt i _ H5 hx w5)) fun _ s8 ⟨σ8, H8, I8, hw8, q8⟩ => ?_
      refine wpAny_tests_nil ?_
      rw [if_pos rfl]
      refine thnF (pe.run _ s8 σ8 H8 _ I8 q8) fun z s10 ⟨yv, H10, I10, r10, acc, hD10, hz10, nx⟩ => ?_
      refine app_ok (X := X.blk s3 H3 scope ce [it]) I10 hD10 hz10 r10 fun s11 I11 => ?_
      have PI := I11.pin (it, oi) (by simp)
      have hl : (wipe σ (own.map (·.2))).length = σ8.length := by rw [← hw8, wipe_length]
      refine ⟨n, Nat.lt_succ_self _, i + 1, _, by omega, (I11.pins_of (pins' := [p]) fun q hq => I11.pin q (by simp at hq ⊢; exact .inl hq)).weak hl (fun j v e => ?_), ⟨oi, PI.1, ci, di⟩, PI.2.1, nx⟩
      rw [← hw8] at e
      exact (wipe_some e).1
  exact codeAny_compStart_list loop (wpAny_pyIter_listiter st4 loop)
end
end Tw

set_option maxHeartbeats 4000000
namespace Tw
open PySem PySem.Spec PyProof.Rows L2 LamX
/-! ### what stays from one heap to a later one: all but tables of code objects, which stay tables; an instance's field "seen" may change -/
def sn (n : Int) : List (Str × V) := [("seen", .int n)]
def Sn (lo : Prop) (o o' : HO) : Prop := o' = o ∨ lo ∧ ∃ (C dx : Addr) (fs : List (Str × V)) (n n' : Int), o = .ins C dx (fs ++ sn n) ∧ o' = .ins C dx (fs ++ sn n')
theorem Sn.refl {lo : Prop} {o : HO} : Sn lo o o := .inl rfl
theorem Sn.trans {lo : Prop} {o p q : HO} (a : Sn lo o p) (b : Sn lo p q) : Sn lo o q := by
  rcases a with rfl | ⟨hl, C, dx, fs, n, n1, e1, e2⟩
  · exact b
  · rcases b with rfl | ⟨_, C2, dx2, fs2, n2, n3, e3, e4⟩
    · exact .inr ⟨hl, C, dx, fs, n, n1, e1, e2⟩
    · rw [e2] at e3
      injection e3 with h1 h2 h3
      have h4 := congrArg List.dropLast h3
      unfold sn at h4
      rw [List.dropLast_concat, List.dropLast_concat] at h4
      subst h1 h2 h4
      exact .inr ⟨hl, C, dx, fs, n, n3, e1, e4⟩
/-- such an object stays as it is -/
def Fix (o : HO) : Prop := ∀ C dx fs, o ≠ .ins C dx fs
theorem Sn.fix {lo : Prop} {o o' : HO} (h : Sn lo o o') (f : Fix o) : o' = o := by
  rcases h with h | ⟨_, C, dx, fs, n, n', h, _⟩
  · exact h
  · exact absurd h (f _ _ _)
theorem Sn.tbl {lo : Prop} {o o' : HO} (h : Sn lo o o') (f : ∀ ps, o ≠ .tbl ps) : ∀ ps, o' ≠ .tbl ps := by
  rcases h with h | ⟨_, C, dx, fs, n, n', _, h⟩
  · rw [h]
    exact f
  · rw [h]
    exact fun ps e => nomatch e
structure Xg (lo : Prop) (T : List (Addr × Str)) (H H' : Hp) : Prop where
  st : ∀ b o, H b = some o → (∀ ps, o ≠ .tbl ps) → ∃ o', H' b = some o' ∧ Sn lo o o'
  tb : Tabs T H → Tabs T H'
/-- loose: looks may be counted; strict: all stays -/
abbrev Xt (T : List (Addr × Str)) (H H' : Hp) : Prop := Xg True T H H'
abbrev Xs (T : List (Addr × Str)) (H H' : Hp) : Prop := Xg False T H H'
section
variable {lo : Prop} {T : List (Addr × Str)} {H H1 H2 : Hp} {K : PySem.W.Frag} {a p : Addr} {o : HO} {xs : List V}
theorem Xg.ex (e : ExtN H H1) (t : Tabs T H1) : Xg lo T H H1 := ⟨fun b o h n => ⟨o, e b o h n, .refl⟩, fun _ => t⟩
theorem Xg.refl : Xg lo T H H := ⟨fun _ o h _ => ⟨o, h, .refl⟩, id⟩
theorem Xg.trans (a : Xg lo T H H1) (b : Xg lo T H1 H2) : Xg lo T H H2 := ⟨fun c o h n => by
  obtain ⟨o1, h1, s1⟩ := a.st c o h n
  obtain ⟨o2, h2, s2⟩ := b.st c o1 h1 (s1.tbl n)
  exact ⟨o2, h2, s1.trans s2⟩, fun t => b.tb (a.tb t)⟩
theorem Xg.of (e : ∀ b o, H b = some o → H1 b = some o) : Xg lo T H H1 := ⟨fun b o h _ => ⟨o, e b o h, .refl⟩, fun t => t.ext e⟩
theorem Xg.new (h : H p = none) : Xg lo T H (upd H p o) := .of fun b u e => by rw [upd_ne (ne_of_none e h)]; exact e
/-- no table, no code object stands at p -/
def Pl (H : Hp) (p : Addr) : Prop := ∀ u, H p = some u → (∀ ps, u ≠ .tbl ps) ∧ ∀ f, u ≠ .ext f
theorem Pl.lst (h : H p = some (.lst xs)) : Pl H p := fun u e => by
  rw [h] at e
  cases e
  exact ⟨fun ps z => (nomatch z), fun f z => (nomatch z)⟩
theorem Pl.ins {C dx : Addr} {fs : List (Str × V)} (h : H p = some (.ins C dx fs)) : Pl H p := fun u e => by
  rw [h] at e
  cases e
  exact ⟨fun ps z => (nomatch z), fun f z => (nomatch z)⟩
theorem tabs_upd {H' : Hp} (t : Tabs T H') (h : Pl H' p) : Tabs T (upd H' p o) := fun q hq => by
  obtain ⟨ps, h1, h2, h3⟩ := t q hq
  refine ⟨ps, by rw [upd_ne fun z => by rw [z] at h1; exact (h _ h1).1 _ rfl]; exact h1, h2, fun pos cv hc => ?_⟩
  obtain ⟨c, e1, e2⟩ := h3 pos cv hc
  exact ⟨c, e1, by rw [upd_ne fun z => by rw [z] at e2; exact (h _ e2).2 _ rfl]; exact e2⟩
/-- no proper object of H stands at p -/
def Nw (H : Hp) (p : Addr) : Prop := ∀ o, H p = some o → ∃ ps, o = .tbl ps
theorem Nw.of (h : H p = none) : Nw H p := fun o e => by
  rw [h] at e
  cases e
theorem Xg.nw (e : Xg lo T H H1) (h : Nw H1 p) : Nw H p := fun o ho => by
  cases o with
  | tbl ps => exact ⟨ps, rfl⟩
  | _ =>
    obtain ⟨o', h1, s⟩ := e.st p _ ho fun ps z => by cases z
    obtain ⟨ps, h2⟩ := h _ h1
    exact absurd h2 (s.tbl (fun ps z => by cases z) ps)
theorem Nw.ne (h : Nw H p) (ha : H a = some o) (ho : ∀ ps, o ≠ .tbl ps) : a ≠ p := fun z => by
  rw [z] at ha
  obtain ⟨ps, e⟩ := h _ ha
  exact ho ps e
theorem Nw.nl (h : Nw H p) (ha : H a = some (.lst xs)) : a ≠ p := h.ne ha fun ps z => by cases z
/-- an object that H does not know is written in a later heap -/
theorem Xg.put {H' : Hp} (e : Xg lo T H H') (h : Nw H p) (hl : Pl H' p) : Xg lo T H (upd H' p o) :=
  ⟨fun b u hb n => by rw [upd_ne (h.ne hb n)]; exact e.st b u hb n, fun t => tabs_upd (e.tb t) hl⟩
theorem Xg.mut {H' : Hp} {ys : List V} (e : Xg lo T H H') (h : Nw H p) (hl : H' p = some (.lst ys)) : Xg lo T H (upd H' p (.lst xs)) := e.put h (.lst hl)
/-- an instance's last field "seen" changes -/
theorem Xg.see (hlo : lo) {C dx : Addr} {fs : List (Str × V)} {n n' : Int} (h : H p = some (.ins C dx (fs ++ sn n))) : Xg lo T H (upd H p (.ins C dx (fs ++ sn n'))) :=
  ⟨fun b u hb _ => by
    by_cases e : b = p
    · subst e
      rw [h] at hb
      exact ⟨_, upd_same .., .inr ⟨hlo, C, dx, fs, n, n', (Option.some.inj hb).symm, rfl⟩⟩
    · exact ⟨u, by rw [upd_ne e]; exact hb, .refl⟩, fun t => tabs_upd t (.ins h)⟩
theorem Xg.fix (e : Xg lo T H H1) (h : H a = some o) (f : Fix o) (n : ∀ ps, o ≠ .tbl ps) : H1 a = some o := by
  obtain ⟨o', h1, s⟩ := e.st a o h n
  rw [h1, s.fix f]
theorem Xg.lst (e : Xg lo T H H1) (h : H a = some (.lst xs)) : H1 a = some (.lst xs) := e.fix h (fun _ _ _ z => by cases z) fun ps z => by cases z
theorem Xg.tup (e : Xg lo T H H1) (h : H a = some (.tup xs)) : H1 a = some (.tup xs) := e.fix h (fun _ _ _ z => by cases z) fun ps z => by cases z
theorem Xg.ins {C dx : Addr} {fs : List (Str × V)} (e : Xg lo T H H1) (h : H a = some (.ins C dx fs)) (hs : ∀ fs' n, fs ≠ fs' ++ sn n) : H1 a = some (.ins C dx fs) := by
  obtain ⟨o', h1, s⟩ := e.st a _ h fun ps z => by cases z
  rcases s with s | ⟨_, C2, dx2, fs2, n, n', s1, s2⟩
  · rw [h1, s]
  · injection s1 with _ _ s1
    exact absurd s1 (hs _ _)
theorem Xg.insSeen {C dx : Addr} {fs : List (Str × V)} {n : Int} (e : Xg lo T H H1) (h : H a = some (.ins C dx (fs ++ sn n))) : ∃ n', H1 a = some (.ins C dx (fs ++ sn n')) := by
  obtain ⟨o', h1, s⟩ := e.st a _ h fun ps z => by cases z
  rcases s with s | ⟨_, C2, dx2, fs2, n2, n', s1, s2⟩
  · exact ⟨n, by rw [h1, s]⟩
  · injection s1 with e1 e2 s1
    have h4 := congrArg List.dropLast s1
    unfold sn at h4
    rw [List.dropLast_concat, List.dropLast_concat] at h4
    subst e1 e2 h4
    exact ⟨n', by rw [h1, s2]⟩
theorem Xg.seq (e : Xg lo T H H1) (h : SqL K H a xs) : SqL K H1 a xs := by
  rcases h with (h | ⟨o, h⟩) | h
  · exact .inl (.inl (e.lst h))
  · exact .inl (.inr ⟨o, e.fix h (fun _ _ _ z => by cases z) fun ps z => by cases z⟩)
  · exact .inr h
theorem Xg.seqT (e : Xg lo T H H1) (h : SqT K H a xs) : SqT K H1 a xs := by
  rcases h with (h | ⟨o, h⟩) | h
  · exact .inl (.inl (e.tup h))
  · exact .inl (.inr ⟨o, e.fix h (fun _ _ _ z => by cases z) fun ps z => by cases z⟩)
  · exact .inr h
theorem Xg.up (e : Xs T H H1) : Xt T H H1 := ⟨fun b o h n => by
  obtain ⟨o', h1, s⟩ := e.st b o h n
  rcases s with s | ⟨z, _⟩
  · exact ⟨o', h1, .inl s⟩
  · exact z.elim, e.tb⟩
/-- strict: all but tables stays -/
theorem Xg.same (e : Xs T H H1) (h : H a = some o) (n : ∀ ps, o ≠ .tbl ps) : H1 a = some o := by
  obtain ⟨o', h1, s⟩ := e.st a o h n
  rcases s with s | ⟨z, _⟩
  · rw [h1, s]
  · exact z.elim
theorem Xt.new (h : H p = none) : Xt T H (upd H p o) := Xg.new h
theorem Xt.ex (e : ExtN H H1) (t : Tabs T H1) : Xt T H H1 := Xg.ex e t
theorem Xt.refl : Xt T H H := Xg.refl
theorem Xt.trans (a : Xt T H H1) (b : Xt T H1 H2) : Xt T H H2 := Xg.trans a b
theorem Xt.lst (e : Xt T H H1) (h : H a = some (.lst xs)) : H1 a = some (.lst xs) := Xg.lst e h
theorem Xt.seq (e : Xt T H H1) (h : SqL K H a xs) : SqL K H1 a xs := Xg.seq e h
theorem Xs.new (h : H p = none) : Xs T H (upd H p o) := Xg.new h
theorem Xs.refl : Xs T H H := Xg.refl
end
/-! ### a def called with the handled exception -/
structure FnHp (P : Program) (w : World) (K : PySem.W.Frag) (mg : Str → Option Value) (base : Heap) (k : Nat) (f : Addr) (fd : FuncData) (ps : List Str) (sp : Addr × Obj → List V → Hp → VK → Prop) : Prop where
  len : ∀ p vs H Q, sp p vs H Q → vs.length = ps.length
  run : ∀ (A : Around) (outer : List Env) (s : Shared) (H : Hp) (args : Args) (us : List Value) (vs : List V) (Q : VK) (p : Addr × Obj), L2H.RoomH k A → L2H.Hot1 A p → L2H.PinOk outer H s p → Env0 P w K mg base A outer s H → BindsTo s fd args (ps.zip us) → Vals vs us → sp p vs H Q →
    codeAny (model P w) A (.call (.ref f) args) (CR CX0 outer P w H s Q E0) s
section
variable {P : Program} {w : World} {K : PySem.W.Frag} {mg : Str → Option Value} {base : Heap}
theorem fn_hp {k : Nat} {x qual : Str} {params : Arguments} {body : List Stmt} {scope : Scope} {f : Addr} {fd : FuncData} {N ps : List Str} {sp : Addr × Obj → List V → Hp → VK → Prop} (F : FunD K x qual params body scope [] [] f fd) (S : FnScope N ps scope)
    (len : ∀ p vs H Q, sp p vs H Q → vs.length = ps.length)
    (hbody : ∀ (cdv : Value) (A : Around) (outer : List Env) (s : Shared) (H : Hp) (vs : List V) (Q : VK) (p : Addr × Obj), L2H.Hot1 A p → L2H.RoomH k (A.deeper (envOfC qual scope s.heap.objs.size f cdv)) → sp p vs H Q →
      ∃ t, PSs (L2H.cxH CX0 P w K mg base N qual scope f cdv A outer s H E0 p) body t ∧ t { nx := fun _ H' => Q .non H', rt := Q } (L2.start N vs) H) :
    FnHp P w K mg base (k + 1) f fd ps sp := by
  obtain ⟨oc, od, dV, kV, doc, pm, an, cdv, ct, osl, rfl, lk, hcd, _, _⟩ := F.ex
  refine ⟨len, fun A outer s H args us vs Q p hr hot hpin e0 hb r hsp => ?_⟩
  have hl := len _ _ _ _ hsp
  have KX : K.In s.heap := e0.mod.kin.keeps fun b o e => (e0.bs b o e).1
  have lim : s.heap.NoLimit := e0.mod.nolimit.keeps fun b o e => (e0.bs b o e).1
  refine codeAny_call_function hr.depth (KX _ _ lk) rfl S.co S.gen rfl (PySem.W.codeRec_of KX hcd) (hb _ _ _ _ ?_)
  refine wpAny_newFunctionEnv_cells S.kind (fun ⟨n, v⟩ hy => ?_) fun env he s1 x => ?_
  · exact (S.par n (List.of_mem_zip hy).1).imp id fun q => ⟨q, PySem.W.cellsFrom_some _ _ _ (.inl q)⟩
  subst he
  refine ⟨lim.keeps x.toInCall.keep, codeAny_func ?_⟩
  obtain ⟨t, ht, hq⟩ := hbody cdv A outer s H vs Q p hot (hr.deeper _) hsp
  refine wpAny_mono (ht.run [] s1 (L2.start N vs) H _ (L2H.inv_startH S hpin e0 hl r x) hq) (fun fl s' hs => ?_) fun e s' hs => hs
  cases fl with
  | ret u =>
    obtain ⟨v, σ', H', J, rv, q⟩ := hs
    exact ⟨v, H', J.os, J.bare, J.base, J.hok, rv, q⟩
  | next =>
    obtain ⟨σ', H', J, q⟩ := hs
    exact ⟨V.non, H', J.os, J.bare, J.base, J.hok, rfl, q⟩
  | brk =>
    obtain ⟨_, _, _, q⟩ := hs
    exact False.elim q
  | cont =>
    obtain ⟨_, _, _, q⟩ := hs
    exact False.elim q
end
section
variable {X : Cx} {k : Nat} {f : Addr} {fd : FuncData} {ps : List Str} {sp : Addr × Obj → List V → Hp → VK → Prop} {x : Str} {q pos : Pos} {e : Expr} {es : List Expr} {t : TA}
/-- its call, p the handled exception that the context bears -/
theorem pe_callHp {p : Addr × Obj} (F : FnHp X.prog X.w X.K X.mg X.base k f fd ps sp) (hr : L2H.RoomH k X.A) (hot : L2H.Hot1 X.A p) (hp : p ∈ X.pn) (hg : Gl X x) (hm : X.mg x = some (.ref f)) (hk : PySem.W.keepIn X.K (.ref f) = true) (hb : Binds X.K fd ps [])
    (ha : PA X (e :: es) t) (hdb : (x == ("__debug__" : Str)) = false) (he : starEach (e :: es) X.env = (false, eval e X.env) :: starEach es X.env := by rfl) (hpl : (backTo pos (starEach es X.env)).any (·.1) = false := by rfl) :
    PE X (.Call (.Name x q) (e :: es) [] pos) (fun σ H Q => t σ H fun vs H1 => sp p vs H1 Q) := by
  refine ⟨fun pins s σ H Q I h => ?_⟩
  refine wpAny_Call_Name_kw (ld_glob I hg hm ?_ hdb)
  refine PySem.W.callWith_K (h₀ := X.base) I.ok.mod.kin hk (thn (ha.run pos pins s σ H _ I h) fun us s1 ⟨vs, H1, I1, r, h2⟩ => ⟨I1.kIn, ?_⟩) he hpl
  have hl : us.length = ps.length := by rw [← r.length]; exact F.len _ _ _ _ h2
  have b := hb s1 us I1.kIn (by rw [List.append_nil]; exact hl)
  rw [List.append_nil] at b
  have P1 := I1.pin p (List.mem_append_left _ hp)
  have hpin : L2H.PinOk X.stack H1 s1 p := ⟨P1.1, P1.2.1, fun hm => (List.mem_cons.mp (I1.stkSub p.1 hm)).elim P1.2.2.1 P1.2.2.2.1, P1.2.2.2.2⟩
  refine wpAny_call (codeAny_mono (F.run X.A X.stack s1 H1 ⟨us, []⟩ us vs Q p hr hot hpin I1.env0 b r h2) fun r s' hq => ?_)
  cases r with
  | error e => exact hq.elim
  | ok fl =>
    cases fl with
    | ret u => exact I1.after hq
    | next => exact hq.elim
    | brk => exact hq.elim
    | cont => exact hq.elim
/-- isinstance(e, c), e a pinned exception -/
theorem call_isP {a D : Addr} {oe : Obj} (C : ExcC X.K D) (hp : (a, oe) ∈ X.pn) (hz : Zc (.ref D) none oe) (hf : ∃ vs, oe.data = .fields vs) : CallR X (.builtin "isinstance") (rIsE X.K D a) := by
  intro pins s σ H xs us Q I r h
  obtain ⟨c, cv, b, rfl, hcv, e, q⟩ := h
  cases r with
  | cons rx rr =>
    cases rr with
    | cons rt rr =>
      cases rr
      cases rx
      have ec := hcv _ rt
      subst ec
      obtain ⟨hget, _⟩ := I.pin (a, oe) (List.mem_append_left _ hp)
      obtain ⟨vs, hv⟩ := hf
      obtain ⟨oc, od, oda, osl⟩ := oe
      obtain ⟨h1, h2⟩ := hz
      dsimp only at h1 h2 hv
      subst h1 h2 hv
      exact PySem.W.kia_one (PySem.W.handS_kitx_exc C.hg C.hk C.hs C.hd C.ha C.hn C.ht C.hm) I.kIn (H := fun h => PySem.W.InstAt h a _ D none) ⟨hget, rfl, rfl, trivial⟩ e (fun z => nomatch z) fun tk => ⟨.bl b, H, I.kept (t' := tk) fun _ _ z => z, rfl, q⟩
end
end Tw

set_option maxHeartbeats 4000000
namespace Tw
open PySem PySem.Spec PyProof.Rows L2 LamX
/-! ### what the built-in names stand for -/
section
theorem b_len : bootBuiltins "len" = some (.builtin "len") := by decide +kernel
theorem b_max : bootBuiltins "max" = some (.builtin "max") := by decide +kernel
theorem b_min : bootBuiltins "min" = some (.builtin "min") := by decide +kernel
theorem b_sum : bootBuiltins "sum" = some (.builtin "sum") := by decide +kernel
theorem b_all : bootBuiltins "all" = some (.builtin "all") := by decide +kernel
theorem b_ord : bootBuiltins "ord" = some (.builtin "ord") := by decide +kernel
theorem b_sorted : bootBuiltins "sorted" = some (.builtin "sorted") := by decide +kernel
theorem b_isinstance : bootBuiltins "isinstance" = some (.builtin "isinstance") := by decide +kernel
theorem b_int : bootBuiltins "int" = some (.type "int") := by decide +kernel
theorem b_str : bootBuiltins "str" = some (.type "str") := by decide +kernel
theorem b_bool : bootBuiltins "bool" = some (.type "bool") := by decide +kernel
theorem b_list : bootBuiltins "list" = some (.type "list") := by decide +kernel
theorem b_tuple : bootBuiltins "tuple" = some (.type "tuple") := by decide +kernel
theorem b_set : bootBuiltins "set" = some (.type "set") := by decide +kernel
theorem b_ValueError : bootBuiltins "ValueError" = some (.type "ValueError") := by decide +kernel
end
/-! ### defs by names -/
/-- the function object of the def that stands at a place -/
def fdOf (K : PySem.W.Frag) (at_ : He.Defn) : FuncData := match K.lookup (He.fAd K at_) with
  | some ⟨_, _, .func fd, _⟩ => fd
  | _ => default
theorem fdOf_of {K : PySem.W.Frag} {at_ : He.Defn} {x q : Str} {ps : Arguments} {b : List Stmt} {sc : Scope} {d : List V} {k : List (Str × V)} {fd : FuncData} (F : FunD K x q ps b sc d k (He.fAd K at_) fd) : FunD K x q ps b sc d k (He.fAd K at_) (fdOf K at_) := by
  have e : fdOf K at_ = fd := by
    obtain ⟨oc, od, dV, kV, doc, pm, an, cdv, ct, osl, e, lk, _⟩ := F.ex
    unfold fdOf
    rw [lk]
  rw [e]
  exact F
abbrev OkN (P : Program) (w : World) (K : PySem.W.Frag) (mg : Str → Option Value) (base : Heap) (at_ : He.Defn) (k : Nat) (ps : List Str) (sp : Sp) : Prop := FnOk P w K mg base (L2N.CX P w) k (He.fAd K at_) (fdOf K at_) ps sp
/-! ### exceptions -/
structure ExcF (K : PySem.W.Frag) (mg : Str → Option Value) (x : Str) : Prop where
  g : mg x = some (.ref (He.ga K x))
  f : PySem.W.excIn K (He.ga K x) He.veBase "ValueError.__new__" = true ∧ PySem.W.keepIn K (.ref (He.ga K x)) = true ∧ PySem.W.subIn K (.ref (He.ga K x)) (.type "BaseException") = some true ∧ PySem.W.typeIn K (.ref (He.ga K x)) = some (.type "type")
section
variable {P : Program} {w : World} {K : PySem.W.Frag} {mg : Str → Option Value} {base : Heap} {N : List Str} {qual : Str} {scope : Scope} {f : Addr} {cd : Value} {A : Around} {outer : List Env} {s : Shared} {H : Hp} {E : XK}
/-- in a def's body: what a callee lets out leaves -/
theorem psE (σ : L2.St) : PassesAt (L2N.CX P w) (cxOf (L2N.CX P w) P w K mg base N qual scope f cd A outer s H E) σ ((fun _ => E) σ) :=
  L2N.passAt (W := fun cls d _ H' => E cls d H') (L2N.takes_of rfl rfl rfl rfl) σ
/-- raise C('..') in a def's body -/
theorem ps_rz {x m : Str} {j : Nat} {p p2 pos pos2 : Pos} (C : ExcF K mg x) (hg : scope.names.lookup x = some .globalImplicit) (hdb : (x == ("__debug__" : Str)) = false) :
    PS (cxOf (L2N.CX P w) P w K mg base N qual scope f cd A outer s H E) (.Raise (some (.Call (.Name x p) [.Constant (.str m) j p2] [] pos)) none pos2) (fun _ _ H' => E (.ref (He.ga K x)) none H') :=
  L2N.ps_raise (W := fun cls d _ H' => E cls d H') rfl (L2N.takes_of rfl rfl rfl rfl) (L2N.pmk_own (X := cxOf (L2N.CX P w) P w K mg base N qual scope f cd A outer s H E) PySem.F.excBase_ValueError C.f.1 C.g C.f.2.1 (raises_own C.f.2.2.1 C.f.2.2.2) hg hdb)
end
section
variable {X : Cx} {A : Around} {outer : List Env} {s : Shared} {H : Hp} {E : XK} {scope : Scope} {f c' : Addr}
/-- in a lambda's body -/
theorem psL (σ : L2.St) : PassesAt (L2N.CX X.prog X.w) (lamN X A outer s H E scope f c') σ ((fun _ => E) σ) :=
  L2N.passAt (W := fun cls d _ H' => E cls d H') lamN_takes σ
/-- in a block, nothing is let out -/
theorem ps0 {X : Cx} {P : Program} {w : World} (σ : L2.St) : PassesAt (L2N.CX P w) X σ ((fun _ => E0) σ) := fun _ _ _ _ _ _ h => by
  obtain ⟨_, _, _, _, _, _, _, _, _, _, _, _, z⟩ := h
  exact z.elim
theorem psP0 {X : Cx} {P : Program} {w : World} : Passes (L2N.CX P w) X E0 := fun pins σ H s e s' I c => ps0 σ pins H s e s' I c
end
section
variable {P : Program} {w : World} {K : PySem.W.Frag} {mg : Str → Option Value} {base : Heap} {N : List Str} {qual : Str} {scope : Scope} {f : Addr} {cd : Value} {A : Around} {outer : List Env} {s : Shared} {H : Hp} {E : XK}
theorem psP : Passes (L2N.CX P w) (cxOf (L2N.CX P w) P w K mg base N qual scope f cd A outer s H E) E := fun pins σ H s e s' I c => psE σ pins H s e s' I c
end
/-! ### the seven classes -/
def seven : List Str := ["BadNumber", "BadBits", "BadPlace", "BadText", "BadCode", "BadTree", "TooMany"]
def excCB (K : PySem.W.Frag) (C : Addr) : Bool :=
  decide (PySem.W.findIn K (.ref C) "__getattribute__" = some (some (.builtin "BaseException.__getattribute__"))) && (decide (PySem.W.findIn K (.ref C) "__getattr__" = some none) && (decide (PySem.W.subIn K (.ref C) (.type "BaseException") = some true) &&
  (PySem.W.hasDictIn K C && (decide (PySem.W.findIn K (.ref C) "__class__" = some (some (.builtin "object.__class__"))) && (decide (PySem.W.specialIn K (.builtin "object.__class__") "__get__" = some (some (.builtin "getset_descriptor.__get__"))) &&
  (decide (PySem.W.takesIn K (.builtin "object.__class__") = some true) && decide (PySem.W.mroIn K C (.type "object") = some true)))))))
theorem excCB_ok {K : PySem.W.Frag} {C : Addr} (h : excCB K C = true) : ExcC K C := by
  unfold excCB at h
  simp only [Bool.and_eq_true, decide_eq_true_eq] at h
  obtain ⟨h1, h2, h3, h4, h5, h6, h7, h8⟩ := h
  exact ⟨h1, h2, h3, h4, h5, h6, h7, h8⟩
/-- the seven, told apart -/
def exB (K : PySem.W.Frag) : Bool := seven.all fun x => excCB K (He.ga K x) && (decide (PySem.W.kitOne K (.ref (He.ga K x)) (.type "ValueError") = some true) && (decide (PySem.W.exmOne K (.ref (He.ga K x)) (.ref (He.ga K "TerseError")) = some true) && seven.all fun y => decide (PySem.W.kitOne K (.ref (He.ga K x)) (.ref (He.ga K y)) = some (decide (x = y)))))
structure Bad (K : PySem.W.Frag) (x : Str) : Prop where
  c : ExcC K (He.ga K x)
  v : PySem.W.kitOne K (.ref (He.ga K x)) (.type "ValueError") = some true
  t : PySem.W.exmOne K (.ref (He.ga K x)) (.ref (He.ga K "TerseError")) = some true
  k : ∀ y ∈ seven, PySem.W.kitOne K (.ref (He.ga K x)) (.ref (He.ga K y)) = some (decide (x = y))
theorem bad_of {K : PySem.W.Frag} {x : Str} (h : exB K = true) (hx : x ∈ seven) : Bad K x := by
  have h1 := List.all_eq_true.mp h x hx
  simp only [Bool.and_eq_true, decide_eq_true_eq] at h1
  obtain ⟨h1, h2, h3, h4⟩ := h1
  exact ⟨excCB_ok h1, h2, h3, fun y hy => of_decide_eq_true (List.all_eq_true.mp h4 y hy)⟩
end Tw

set_option maxHeartbeats 0
namespace Tw
open PySem PySem.Spec PyProof.Rows L2 LamX
def top (i : Nat) : Stmt := PySem.Challenge.pw_tersewood_k80_whole_fewest.main.body.getD i (.Pass ⟨0, 0, 0, 0⟩)
def dd (n : Str) (i : Nat) : He.DefD := ⟨(n, none), n, n, defArgs (top i), defBody (top i), defScope (top i), [], []⟩
def dm (C m q : Str) (i j : Nat) : He.DefD := ⟨(C, some m), m, q, defArgs (inClass (top i) j), defBody (inClass (top i) j), defScope (inClass (top i) j), [], []⟩
def fnL : List He.DefD := [dd "needs" 10, dd "need_bits" 11, dd "signs_of" 15, dd "bits_of" 16, dd "need_tree" 17, dd "tree_of" 18, dm "Counts" "__init__" "Counts.__init__" 21 0, dm "Counts" "ways" "Counts.ways" 21 1, dd "need_count" 22, dd "how_many" 23, dd "fewest_bits" 24, dd "number_of" 25, dd "tree_at" 26, dd "_law_cell" 28, dd "_law_drawn" 29, dd "_law_word" 30, dd "_law_told" 31, dd "_law_needs" 32, dd "_law_bits" 33, dd "_law_tree" 34, dd "_law_bits_of" 35, dd "_law_all" 36, dd "_law_how_many" 37, dd "_law_refused_right" 38, dd "law" 39]
def faL : List He.Fa := [.glo "needs", .glo "need_bits", .glo "signs_of", .glo "bits_of", .glo "need_tree", .glo "tree_of", .glo "need_count", .glo "how_many", .glo "fewest_bits", .glo "number_of", .glo "tree_at", .glo "_law_cell", .glo "_law_drawn", .glo "_law_word", .glo "_law_told", .glo "_law_needs", .glo "_law_bits", .glo "_law_tree", .glo "_law_bits_of", .glo "_law_all", .glo "_law_how_many", .glo "_law_refused_right", .glo "law", .free "all", .free "isinstance", .free "list", .free "len", .free "enumerate", .free "int", .free "range", .free "reversed", .free "sum", .free "ValueError", .free "str", .free "max", .free "sorted", .free "min", .int "MOST_NODES" 1000, .int "MOST_DEEP" 200, .int "MOST_COUNT" 200, .glo "TerseError", .exc "TerseError", .exm "TerseError" "TerseError" true, .glo "BadNumber", .exc "BadNumber", .exm "BadNumber" "TerseError" true, .glo "BadBits", .exc "BadBits", .exm "BadBits" "TerseError" true, .glo "BadPlace", .exc "BadPlace", .exm "BadPlace" "TerseError" true, .glo "BadText", .exc "BadText", .exm "BadText" "TerseError" true, .glo "BadCode", .exc "BadCode", .exm "BadCode" "TerseError" true, .glo "BadTree", .exc "BadTree", .exm "BadTree" "TerseError" true, .glo "TooMany", .exc "TooMany", .exm "TooMany" "TerseError" true, .glo "Counts", .cls "Counts", .mkr "Counts", .noat "Counts" "rows", .meth "Counts" "__init__", .meth "Counts" "ways"]
abbrev R : PySem.W.OpenRow := PySem.W.OpenLaw.row PySem.Challenge.rw_tersewood_k80_whole_fewest
def tf : List He.Defn := [("_law_refused_right", none), ("law", none)]
def tK (K : PySem.W.Frag) : List (Addr × Str) := [((He.cT K ("_law_refused_right", none)).2, (envOfC "_law_refused_right" (defScope (top 38)) 0 0 .none).qual ++ "<lambda>"), ((He.cT K ("law", none)).2, (envOfC "law" (defScope (top 39)) 0 0 .none).qual ++ "<lambda>")]
def exL (K : PySem.W.Frag) : Bool := exB K && (decide ((He.cT K ("_law_refused_right", none)).2 ≠ (He.cT K ("law", none)).2))
abbrev hk : PySem.W.Hook := He.hookX 5 faL fnL [] tf exL
def ob (s : PySem.W.SharedT) : He.AlX := He.obsX 5 faL fnL [] tf exL (HandSHeadRun.getT s)
theorem ob_eq (s : PySem.W.SharedT) : ob s = hk.obs s.abs := He.obsX_eq (HandSHeadRun.getT_eq s)
def loose0 : List Str := ["__name__", "TerseError", "BadNumber", "BadBits", "BadPlace", "BadText", "BadCode", "BadTree", "TooMany", "needs", "need_bits", "MOST_NODES", "MOST_DEEP", "signs_of", "bits_of", "need_tree", "tree_of", "MOST_COUNT", "Counts", "need_count"]
def loose1 : List Str := ["how_many", "fewest_bits", "number_of", "tree_at", "_law_cell", "_law_drawn", "_law_word", "_law_told", "_law_needs", "_law_bits", "_law_tree", "_law_bits_of", "_law_all", "_law_how_many", "_law_refused_right"]
def loose : List Str := loose0 ++ loose1
theorem run (w : World) : HandSHeadRun.RunEq R (PySem.W.view R.prog [39]) hk ob 30000 loose w := by
  intro os
  kernel_rfl
structure Tx (K : PySem.W.Frag) (mg : Str → Option Value) : Prop where
  hx : ∃ h, K.In h ∧ h.Ns mainGlobals mg ∧ He.SaysD faL fnL K
  more : exL K = true
section
variable {K : PySem.W.Frag} {mg : Str → Option Value}
theorem Tx.fct (T : Tx K mg) (i : Nat) {f : He.Fa} (h : faL[i]? = some f) : f.ok K = true := T.hx.choose_spec.2.2.fact i h
theorem Tx.glo (T : Tx K mg) (i : Nat) {x : Str} (h : faL[i]? = some (.glo x)) : mg x = some (.ref (He.ga K x)) := He.glo_ok T.hx.choose_spec.1 T.hx.choose_spec.2.1 (T.fct i h)
theorem Tx.free (T : Tx K mg) (i : Nat) {x : Str} (h : faL[i]? = some (.free x)) : mg x = none := He.free_ok T.hx.choose_spec.1 T.hx.choose_spec.2.1 (T.fct i h)
theorem Tx.int (T : Tx K mg) (i : Nat) {x : Str} {z : Int} (h : faL[i]? = some (.int x z)) : ∃ t, mg x = some (.int z t) := He.int_ok T.hx.choose_spec.1 T.hx.choose_spec.2.1 (T.fct i h)
theorem Tx.str (T : Tx K mg) (i : Nat) {x z : Str} (h : faL[i]? = some (.str x z)) : ∃ t, mg x = some (.str z t) := He.str_ok T.hx.choose_spec.1 T.hx.choose_spec.2.1 (T.fct i h)
theorem Tx.fd (T : Tx K mg) (i : Nat) {d : He.DefD} (h : fnL[i]? = some d) (h1 : d.dfl = []) (h2 : d.kwd = []) : FunD K d.name d.qual d.params d.body d.scope [] [] (He.fAd K d.at_) (fdOf K d.at_) := by
  obtain ⟨fd, F⟩ := T.hx.choose_spec.2.2.def_ i h
  have e1 : d.dvs K = [] := by unfold He.DefD.dvs; rw [h1]; rfl
  have e2 : d.kws K = [] := by unfold He.DefD.kws; rw [h2]; rfl
  rw [e1, e2] at F
  exact fdOf_of F
abbrev s_needs : Stmt := top 10
theorem Tx.F_needs (T : Tx K mg) : FunD K "needs" "needs" (defArgs s_needs) (defBody s_needs) (defScope s_needs) [] [] (He.fAd K ("needs", none)) (fdOf K ("needs", none)) := T.fd 0 rfl rfl rfl
theorem Tx.B_needs (T : Tx K mg) : Binds K (fdOf K ("needs", none)) ["number"] [] := T.F_needs.bindsN fun _ _ _ _ _ _ us hl => match us, hl with | [_], _ => rfl
abbrev N_needs : List Str := ["number", "found"]
theorem sc_needs : FnScope N_needs ["number"] (defScope s_needs) := ⟨rfl, rfl, rfl, by decide +kernel, rfl, by decide +kernel, by decide +kernel⟩
abbrev s_need_bits : Stmt := top 11
theorem Tx.F_need_bits (T : Tx K mg) : FunD K "need_bits" "need_bits" (defArgs s_need_bits) (defBody s_need_bits) (defScope s_need_bits) [] [] (He.fAd K ("need_bits", none)) (fdOf K ("need_bits", none)) := T.fd 1 rfl rfl rfl
theorem Tx.B_need_bits (T : Tx K mg) : Binds K (fdOf K ("need_bits", none)) ["bits"] [] := T.F_need_bits.bindsN fun _ _ _ _ _ _ us hl => match us, hl with | [_], _ => rfl
abbrev N_need_bits : List Str := ["bits", "sign"]
theorem sc_need_bits : FnScope N_need_bits ["bits"] (defScope s_need_bits) := ⟨rfl, rfl, rfl, by decide +kernel, rfl, by decide +kernel, by decide +kernel⟩
abbrev s_signs_of : Stmt := top 15
theorem Tx.F_signs_of (T : Tx K mg) : FunD K "signs_of" "signs_of" (defArgs s_signs_of) (defBody s_signs_of) (defScope s_signs_of) [] [] (He.fAd K ("signs_of", none)) (fdOf K ("signs_of", none)) := T.fd 2 rfl rfl rfl
theorem Tx.B_signs_of (T : Tx K mg) : Binds K (fdOf K ("signs_of", none)) ["tree", "deep"] [] := T.F_signs_of.bindsN fun _ _ _ _ _ _ us hl => match us, hl with | [_, _], _ => rfl
abbrev N_signs_of : List Str := ["tree", "deep", "found", "child"]
theorem sc_signs_of : FnScope N_signs_of ["tree", "deep"] (defScope s_signs_of) := ⟨rfl, rfl, rfl, by decide +kernel, rfl, by decide +kernel, by decide +kernel⟩
abbrev s_bits_of : Stmt := top 16
theorem Tx.F_bits_of (T : Tx K mg) : FunD K "bits_of" "bits_of" (defArgs s_bits_of) (defBody s_bits_of) (defScope s_bits_of) [] [] (He.fAd K ("bits_of", none)) (fdOf K ("bits_of", none)) := T.fd 3 rfl rfl rfl
theorem Tx.B_bits_of (T : Tx K mg) : Binds K (fdOf K ("bits_of", none)) ["tree"] [] := T.F_bits_of.bindsN fun _ _ _ _ _ _ us hl => match us, hl with | [_], _ => rfl
abbrev N_bits_of : List Str := ["tree", "found"]
theorem sc_bits_of : FnScope N_bits_of ["tree"] (defScope s_bits_of) := ⟨rfl, rfl, rfl, by decide +kernel, rfl, by decide +kernel, by decide +kernel⟩
abbrev s_need_tree : Stmt := top 17
theorem Tx.F_need_tree (T : Tx K mg) : FunD K "need_tree" "need_tree" (defArgs s_need_tree) (defBody s_need_tree) (defScope s_need_tree) [] [] (He.fAd K ("need_tree", none)) (fdOf K ("need_tree", none)) := T.fd 4 rfl rfl rfl
theorem Tx.B_need_tree (T : Tx K mg) : Binds K (fdOf K ("need_tree", none)) ["bits"] [] := T.F_need_tree.bindsN fun _ _ _ _ _ _ us hl => match us, hl with | [_], _ => rfl
abbrev N_need_tree : List Str := ["bits", "deep", "at", "bit"]
theorem sc_need_tree : FnScope N_need_tree ["bits"] (defScope s_need_tree) := ⟨rfl, rfl, rfl, by decide +kernel, rfl, by decide +kernel, by decide +kernel⟩
abbrev s_tree_of : Stmt := top 18
theorem Tx.F_tree_of (T : Tx K mg) : FunD K "tree_of" "tree_of" (defArgs s_tree_of) (defBody s_tree_of) (defScope s_tree_of) [] [] (He.fAd K ("tree_of", none)) (fdOf K ("tree_of", none)) := T.fd 5 rfl rfl rfl
theorem Tx.B_tree_of (T : Tx K mg) : Binds K (fdOf K ("tree_of", none)) ["bits"] [] := T.F_tree_of.bindsN fun _ _ _ _ _ _ us hl => match us, hl with | [_], _ => rfl
abbrev N_tree_of : List Str := ["bits", "rows", "bit", "done"]
theorem sc_tree_of : FnScope N_tree_of ["bits"] (defScope s_tree_of) := ⟨rfl, rfl, rfl, by decide +kernel, rfl, by decide +kernel, by decide +kernel⟩
abbrev s_Counts_init : Stmt := inClass (top 21) 0
theorem Tx.F_Counts_init (T : Tx K mg) : FunD K "__init__" "Counts.__init__" (defArgs s_Counts_init) (defBody s_Counts_init) (defScope s_Counts_init) [] [] (He.fAd K ("Counts", some "__init__")) (fdOf K ("Counts", some "__init__")) := T.fd 6 rfl rfl rfl
theorem Tx.B_Counts_init (T : Tx K mg) : Binds K (fdOf K ("Counts", some "__init__")) ["self", "count"] [] := T.F_Counts_init.bindsN fun _ _ _ _ _ _ us hl => match us, hl with | [_, _], _ => rfl
abbrev N_Counts_init : List Str := ["self", "count", "rows", "left", "ahead", "row", "deep", "up", "down"]
theorem sc_Counts_init : FnScope N_Counts_init ["self", "count"] (defScope s_Counts_init) := ⟨rfl, rfl, rfl, by decide +kernel, rfl, by decide +kernel, by decide +kernel⟩
abbrev s_Counts_ways : Stmt := inClass (top 21) 1
theorem Tx.F_Counts_ways (T : Tx K mg) : FunD K "ways" "Counts.ways" (defArgs s_Counts_ways) (defBody s_Counts_ways) (defScope s_Counts_ways) [] [] (He.fAd K ("Counts", some "ways")) (fdOf K ("Counts", some "ways")) := T.fd 7 rfl rfl rfl
theorem Tx.B_Counts_ways (T : Tx K mg) : Binds K (fdOf K ("Counts", some "ways")) ["self", "left", "deep"] [] := T.F_Counts_ways.bindsN fun _ _ _ _ _ _ us hl => match us, hl with | [_, _, _], _ => rfl
abbrev N_Counts_ways : List Str := ["self", "left", "deep"]
theorem sc_Counts_ways : FnScope N_Counts_ways ["self", "left", "deep"] (defScope s_Counts_ways) := ⟨rfl, rfl, rfl, by decide +kernel, rfl, by decide +kernel, by decide +kernel⟩
abbrev s_need_count : Stmt := top 22
theorem Tx.F_need_count (T : Tx K mg) : FunD K "need_count" "need_count" (defArgs s_need_count) (defBody s_need_count) (defScope s_need_count) [] [] (He.fAd K ("need_count", none)) (fdOf K ("need_count", none)) := T.fd 8 rfl rfl rfl
theorem Tx.B_need_count (T : Tx K mg) : Binds K (fdOf K ("need_count", none)) ["count"] [] := T.F_need_count.bindsN fun _ _ _ _ _ _ us hl => match us, hl with | [_], _ => rfl
abbrev N_need_count : List Str := ["count"]
theorem sc_need_count : FnScope N_need_count ["count"] (defScope s_need_count) := ⟨rfl, rfl, rfl, by decide +kernel, rfl, by decide +kernel, by decide +kernel⟩
abbrev s_how_many : Stmt := top 23
theorem Tx.F_how_many (T : Tx K mg) : FunD K "how_many" "how_many" (defArgs s_how_many) (defBody s_how_many) (defScope s_how_many) [] [] (He.fAd K ("how_many", none)) (fdOf K ("how_many", none)) := T.fd 9 rfl rfl rfl
theorem Tx.B_how_many (T : Tx K mg) : Binds K (fdOf K ("how_many", none)) ["count"] [] := T.F_how_many.bindsN fun _ _ _ _ _ _ us hl => match us, hl with | [_], _ => rfl
abbrev N_how_many : List Str := ["count"]
theorem sc_how_many : FnScope N_how_many ["count"] (defScope s_how_many) := ⟨rfl, rfl, rfl, by decide +kernel, rfl, by decide +kernel, by decide +kernel⟩
abbrev s_fewest_bits : Stmt := top 24
theorem Tx.F_fewest_bits (T : Tx K mg) : FunD K "fewest_bits" "fewest_bits" (defArgs s_fewest_bits) (defBody s_fewest_bits) (defScope s_fewest_bits) [] [] (He.fAd K ("fewest_bits", none)) (fdOf K ("fewest_bits", none)) := T.fd 10 rfl rfl rfl
theorem Tx.B_fewest_bits (T : Tx K mg) : Binds K (fdOf K ("fewest_bits", none)) ["count"] [] := T.F_fewest_bits.bindsN fun _ _ _ _ _ _ us hl => match us, hl with | [_], _ => rfl
abbrev N_fewest_bits : List Str := ["count"]
theorem sc_fewest_bits : FnScope N_fewest_bits ["count"] (defScope s_fewest_bits) := ⟨rfl, rfl, rfl, by decide +kernel, rfl, by decide +kernel, by decide +kernel⟩
abbrev s_number_of : Stmt := top 25
theorem Tx.F_number_of (T : Tx K mg) : FunD K "number_of" "number_of" (defArgs s_number_of) (defBody s_number_of) (defScope s_number_of) [] [] (He.fAd K ("number_of", none)) (fdOf K ("number_of", none)) := T.fd 11 rfl rfl rfl
theorem Tx.B_number_of (T : Tx K mg) : Binds K (fdOf K ("number_of", none)) ["tree"] [] := T.F_number_of.bindsN fun _ _ _ _ _ _ us hl => match us, hl with | [_], _ => rfl
abbrev N_number_of : List Str := ["tree", "bits", "inner", "counts", "found", "deep", "at", "bit"]
theorem sc_number_of : FnScope N_number_of ["tree"] (defScope s_number_of) := ⟨rfl, rfl, rfl, by decide +kernel, rfl, by decide +kernel, by decide +kernel⟩
abbrev s_tree_at : Stmt := top 26
theorem Tx.F_tree_at (T : Tx K mg) : FunD K "tree_at" "tree_at" (defArgs s_tree_at) (defBody s_tree_at) (defScope s_tree_at) [] [] (He.fAd K ("tree_at", none)) (fdOf K ("tree_at", none)) := T.fd 12 rfl rfl rfl
theorem Tx.B_tree_at (T : Tx K mg) : Binds K (fdOf K ("tree_at", none)) ["count", "number"] [] := T.F_tree_at.bindsN fun _ _ _ _ _ _ us hl => match us, hl with | [_, _], _ => rfl
abbrev N_tree_at : List Str := ["count", "number", "counts", "bits", "deep", "left", "ways"]
theorem sc_tree_at : FnScope N_tree_at ["count", "number"] (defScope s_tree_at) := ⟨rfl, rfl, rfl, by decide +kernel, rfl, by decide +kernel, by decide +kernel⟩
abbrev s__law_cell : Stmt := top 28
theorem Tx.F__law_cell (T : Tx K mg) : FunD K "_law_cell" "_law_cell" (defArgs s__law_cell) (defBody s__law_cell) (defScope s__law_cell) [] [] (He.fAd K ("_law_cell", none)) (fdOf K ("_law_cell", none)) := T.fd 13 rfl rfl rfl
theorem Tx.B__law_cell (T : Tx K mg) : Binds K (fdOf K ("_law_cell", none)) ["_law_script", "_law_k"] [] := T.F__law_cell.bindsN fun _ _ _ _ _ _ us hl => match us, hl with | [_, _], _ => rfl
abbrev N__law_cell : List Str := ["_law_script", "_law_k"]
theorem sc__law_cell : FnScope N__law_cell ["_law_script", "_law_k"] (defScope s__law_cell) := ⟨rfl, rfl, rfl, by decide +kernel, rfl, by decide +kernel, by decide +kernel⟩
abbrev s__law_drawn : Stmt := top 29
theorem Tx.F__law_drawn (T : Tx K mg) : FunD K "_law_drawn" "_law_drawn" (defArgs s__law_drawn) (defBody s__law_drawn) (defScope s__law_drawn) [] [] (He.fAd K ("_law_drawn", none)) (fdOf K ("_law_drawn", none)) := T.fd 14 rfl rfl rfl
theorem Tx.B__law_drawn (T : Tx K mg) : Binds K (fdOf K ("_law_drawn", none)) ["_law_cell_here", "_law_k"] [] := T.F__law_drawn.bindsN fun _ _ _ _ _ _ us hl => match us, hl with | [_, _], _ => rfl
abbrev N__law_drawn : List Str := ["_law_cell_here", "_law_k", "_law_more"]
theorem sc__law_drawn : FnScope N__law_drawn ["_law_cell_here", "_law_k"] (defScope s__law_drawn) := ⟨rfl, rfl, rfl, by decide +kernel, rfl, by decide +kernel, by decide +kernel⟩
abbrev s__law_word : Stmt := top 30
theorem Tx.F__law_word (T : Tx K mg) : FunD K "_law_word" "_law_word" (defArgs s__law_word) (defBody s__law_word) (defScope s__law_word) [] [] (He.fAd K ("_law_word", none)) (fdOf K ("_law_word", none)) := T.fd 15 rfl rfl rfl
theorem Tx.B__law_word (T : Tx K mg) : Binds K (fdOf K ("_law_word", none)) ["_law_e"] [] := T.F__law_word.bindsN fun _ _ _ _ _ _ us hl => match us, hl with | [_], _ => rfl
abbrev N__law_word : List Str := ["_law_e", "_law_flags", "_law_flag"]
theorem sc__law_word : FnScope N__law_word ["_law_e"] (defScope s__law_word) := ⟨rfl, rfl, rfl, by decide +kernel, rfl, by decide +kernel, by decide +kernel⟩
abbrev s__law_told : Stmt := top 31
theorem Tx.F__law_told (T : Tx K mg) : FunD K "_law_told" "_law_told" (defArgs s__law_told) (defBody s__law_told) (defScope s__law_told) [] [] (He.fAd K ("_law_told", none)) (fdOf K ("_law_told", none)) := T.fd 16 rfl rfl rfl
theorem Tx.B__law_told (T : Tx K mg) : Binds K (fdOf K ("_law_told", none)) ["_law_deed"] [] := T.F__law_told.bindsN fun _ _ _ _ _ _ us hl => match us, hl with | [_], _ => rfl
abbrev N__law_told : List Str := ["_law_deed", "_law_e"]
theorem sc__law_told : FnScope N__law_told ["_law_deed"] (defScope s__law_told) := ⟨rfl, rfl, rfl, by decide +kernel, rfl, by decide +kernel, by decide +kernel⟩
abbrev s__law_needs : Stmt := top 32
theorem Tx.F__law_needs (T : Tx K mg) : FunD K "_law_needs" "_law_needs" (defArgs s__law_needs) (defBody s__law_needs) (defScope s__law_needs) [] [] (He.fAd K ("_law_needs", none)) (fdOf K ("_law_needs", none)) := T.fd 17 rfl rfl rfl
theorem Tx.B__law_needs (T : Tx K mg) : Binds K (fdOf K ("_law_needs", none)) ["_law_number"] [] := T.F__law_needs.bindsN fun _ _ _ _ _ _ us hl => match us, hl with | [_], _ => rfl
abbrev N__law_needs : List Str := ["_law_number", "_law_found"]
theorem sc__law_needs : FnScope N__law_needs ["_law_number"] (defScope s__law_needs) := ⟨rfl, rfl, rfl, by decide +kernel, rfl, by decide +kernel, by decide +kernel⟩
abbrev s__law_bits : Stmt := top 33
theorem Tx.F__law_bits (T : Tx K mg) : FunD K "_law_bits" "_law_bits" (defArgs s__law_bits) (defBody s__law_bits) (defScope s__law_bits) [] [] (He.fAd K ("_law_bits", none)) (fdOf K ("_law_bits", none)) := T.fd 18 rfl rfl rfl
theorem Tx.B__law_bits (T : Tx K mg) : Binds K (fdOf K ("_law_bits", none)) ["_law_number", "_law_wide"] [] := T.F__law_bits.bindsN fun _ _ _ _ _ _ us hl => match us, hl with | [_, _], _ => rfl
abbrev N__law_bits : List Str := ["_law_number", "_law_wide", "_law_found", "_law_turn"]
theorem sc__law_bits : FnScope N__law_bits ["_law_number", "_law_wide"] (defScope s__law_bits) := ⟨rfl, rfl, rfl, by decide +kernel, rfl, by decide +kernel, by decide +kernel⟩
abbrev s__law_tree : Stmt := top 34
theorem Tx.F__law_tree (T : Tx K mg) : FunD K "_law_tree" "_law_tree" (defArgs s__law_tree) (defBody s__law_tree) (defScope s__law_tree) [] [] (He.fAd K ("_law_tree", none)) (fdOf K ("_law_tree", none)) := T.fd 19 rfl rfl rfl
theorem Tx.B__law_tree (T : Tx K mg) : Binds K (fdOf K ("_law_tree", none)) ["_law_more", "_law_many"] [] := T.F__law_tree.bindsN fun _ _ _ _ _ _ us hl => match us, hl with | [_, _], _ => rfl
abbrev N__law_tree : List Str := ["_law_more", "_law_many", "_law_rows", "_law_nodes", "_law_ways", "_law_j", "_law_here", "_law_at", "_law_fresh"]
theorem sc__law_tree : FnScope N__law_tree ["_law_more", "_law_many"] (defScope s__law_tree) := ⟨rfl, rfl, rfl, by decide +kernel, rfl, by decide +kernel, by decide +kernel⟩
abbrev s__law_bits_of : Stmt := top 35
theorem Tx.F__law_bits_of (T : Tx K mg) : FunD K "_law_bits_of" "_law_bits_of" (defArgs s__law_bits_of) (defBody s__law_bits_of) (defScope s__law_bits_of) [] [] (He.fAd K ("_law_bits_of", none)) (fdOf K ("_law_bits_of", none)) := T.fd 20 rfl rfl rfl
theorem Tx.B__law_bits_of (T : Tx K mg) : Binds K (fdOf K ("_law_bits_of", none)) ["_law_tree_here"] [] := T.F__law_bits_of.bindsN fun _ _ _ _ _ _ us hl => match us, hl with | [_], _ => rfl
abbrev N__law_bits_of : List Str := ["_law_tree_here", "_law_found", "_law_child"]
theorem sc__law_bits_of : FnScope N__law_bits_of ["_law_tree_here"] (defScope s__law_bits_of) := ⟨rfl, rfl, rfl, by decide +kernel, rfl, by decide +kernel, by decide +kernel⟩
abbrev s__law_all : Stmt := top 36
theorem Tx.F__law_all (T : Tx K mg) : FunD K "_law_all" "_law_all" (defArgs s__law_all) (defBody s__law_all) (defScope s__law_all) [] [] (He.fAd K ("_law_all", none)) (fdOf K ("_law_all", none)) := T.fd 21 rfl rfl rfl
theorem Tx.B__law_all (T : Tx K mg) : Binds K (fdOf K ("_law_all", none)) ["_law_many"] [] := T.F__law_all.bindsN fun _ _ _ _ _ _ us hl => match us, hl with | [_], _ => rfl
abbrev N__law_all : List Str := ["_law_many", "_law_row", "_law_step", "_law_later", "_law_bits_here", "_law_deep", "_law_ones"]
theorem sc__law_all : FnScope N__law_all ["_law_many"] (defScope s__law_all) := ⟨rfl, rfl, rfl, by decide +kernel, rfl, by decide +kernel, by decide +kernel⟩
abbrev s__law_how_many : Stmt := top 37
theorem Tx.F__law_how_many (T : Tx K mg) : FunD K "_law_how_many" "_law_how_many" (defArgs s__law_how_many) (defBody s__law_how_many) (defScope s__law_how_many) [] [] (He.fAd K ("_law_how_many", none)) (fdOf K ("_law_how_many", none)) := T.fd 22 rfl rfl rfl
theorem Tx.B__law_how_many (T : Tx K mg) : Binds K (fdOf K ("_law_how_many", none)) ["_law_many"] [] := T.F__law_how_many.bindsN fun _ _ _ _ _ _ us hl => match us, hl with | [_], _ => rfl
abbrev N__law_how_many : List Str := ["_law_many", "_law_counts", "_law_size", "_law_one"]
theorem sc__law_how_many : FnScope N__law_how_many ["_law_many"] (defScope s__law_how_many) := ⟨rfl, rfl, rfl, by decide +kernel, rfl, by decide +kernel, by decide +kernel⟩
abbrev s__law_refused_right : Stmt := top 38
theorem Tx.F__law_refused_right (T : Tx K mg) : FunD K "_law_refused_right" "_law_refused_right" (defArgs s__law_refused_right) (defBody s__law_refused_right) (defScope s__law_refused_right) [] [] (He.fAd K ("_law_refused_right", none)) (fdOf K ("_law_refused_right", none)) := T.fd 23 rfl rfl rfl
theorem Tx.B__law_refused_right (T : Tx K mg) : Binds K (fdOf K ("_law_refused_right", none)) ["_law_great", "_law_whole", "_law_more"] [] := T.F__law_refused_right.bindsN fun _ _ _ _ _ _ us hl => match us, hl with | [_, _, _], _ => rfl
abbrev N__law_refused_right : List Str := ["_law_great", "_law_whole", "_law_more", "_law_odd", "_law_some"]
theorem sc__law_refused_right : FnScope N__law_refused_right ["_law_great", "_law_whole", "_law_more"] (defScope s__law_refused_right) := ⟨rfl, rfl, rfl, by decide +kernel, rfl, by decide +kernel, by decide +kernel⟩
abbrev s_law : Stmt := top 39
theorem Tx.F_law (T : Tx K mg) : FunD K "law" "law" (defArgs s_law) (defBody s_law) (defScope s_law) [] [] (He.fAd K ("law", none)) (fdOf K ("law", none)) := T.fd 24 rfl rfl rfl
theorem Tx.B_law (T : Tx K mg) : Binds K (fdOf K ("law", none)) ["_law_script"] [] := T.F_law.bindsN fun _ _ _ _ _ _ us hl => match us, hl with | [_], _ => rfl
abbrev N_law : List Str := ["_law_script", "_law_k", "_law_more", "_law_many", "_law_row", "_law_at", "_law_number", "_law_tree_here", "_law_great", "_law_whole", "_law_one", "_law_other", "_law_first", "_law_j"]
theorem sc_law : FnScope N_law ["_law_script"] (defScope s_law) := ⟨rfl, rfl, rfl, by decide +kernel, rfl, by decide +kernel, by decide +kernel⟩
theorem Tx.g_needs (T : Tx K mg) : mg "needs" = some (.ref (He.ga K "needs")) := T.glo 0 rfl
theorem Tx.g_need_bits (T : Tx K mg) : mg "need_bits" = some (.ref (He.ga K "need_bits")) := T.glo 1 rfl
theorem Tx.g_signs_of (T : Tx K mg) : mg "signs_of" = some (.ref (He.ga K "signs_of")) := T.glo 2 rfl
theorem Tx.g_bits_of (T : Tx K mg) : mg "bits_of" = some (.ref (He.ga K "bits_of")) := T.glo 3 rfl
theorem Tx.g_need_tree (T : Tx K mg) : mg "need_tree" = some (.ref (He.ga K "need_tree")) := T.glo 4 rfl
theorem Tx.g_tree_of (T : Tx K mg) : mg "tree_of" = some (.ref (He.ga K "tree_of")) := T.glo 5 rfl
theorem Tx.g_need_count (T : Tx K mg) : mg "need_count" = some (.ref (He.ga K "need_count")) := T.glo 6 rfl
theorem Tx.g_how_many (T : Tx K mg) : mg "how_many" = some (.ref (He.ga K "how_many")) := T.glo 7 rfl
theorem Tx.g_fewest_bits (T : Tx K mg) : mg "fewest_bits" = some (.ref (He.ga K "fewest_bits")) := T.glo 8 rfl
theorem Tx.g_number_of (T : Tx K mg) : mg "number_of" = some (.ref (He.ga K "number_of")) := T.glo 9 rfl
theorem Tx.g_tree_at (T : Tx K mg) : mg "tree_at" = some (.ref (He.ga K "tree_at")) := T.glo 10 rfl
theorem Tx.g__law_cell (T : Tx K mg) : mg "_law_cell" = some (.ref (He.ga K "_law_cell")) := T.glo 11 rfl
theorem Tx.g__law_drawn (T : Tx K mg) : mg "_law_drawn" = some (.ref (He.ga K "_law_drawn")) := T.glo 12 rfl
theorem Tx.g__law_word (T : Tx K mg) : mg "_law_word" = some (.ref (He.ga K "_law_word")) := T.glo 13 rfl
theorem Tx.g__law_told (T : Tx K mg) : mg "_law_told" = some (.ref (He.ga K "_law_told")) := T.glo 14 rfl
theorem Tx.g__law_needs (T : Tx K mg) : mg "_law_needs" = some (.ref (He.ga K "_law_needs")) := T.glo 15 rfl
theorem Tx.g__law_bits (T : Tx K mg) : mg "_law_bits" = some (.ref (He.ga K "_law_bits")) := T.glo 16 rfl
theorem Tx.g__law_tree (T : Tx K mg) : mg "_law_tree" = some (.ref (He.ga K "_law_tree")) := T.glo 17 rfl
theorem Tx.g__law_bits_of (T : Tx K mg) : mg "_law_bits_of" = some (.ref (He.ga K "_law_bits_of")) := T.glo 18 rfl
theorem Tx.g__law_all (T : Tx K mg) : mg "_law_all" = some (.ref (He.ga K "_law_all")) := T.glo 19 rfl
theorem Tx.g__law_how_many (T : Tx K mg) : mg "_law_how_many" = some (.ref (He.ga K "_law_how_many")) := T.glo 20 rfl
theorem Tx.g__law_refused_right (T : Tx K mg) : mg "_law_refused_right" = some (.ref (He.ga K "_law_refused_right")) := T.glo 21 rfl
theorem Tx.g_law (T : Tx K mg) : mg "law" = some (.ref (He.ga K "law")) := T.glo 22 rfl
theorem Tx.z_all (T : Tx K mg) : mg "all" = none := T.free 23 rfl
theorem Tx.z_isinstance (T : Tx K mg) : mg "isinstance" = none := T.free 24 rfl
theorem Tx.z_list (T : Tx K mg) : mg "list" = none := T.free 25 rfl
theorem Tx.z_len (T : Tx K mg) : mg "len" = none := T.free 26 rfl
theorem Tx.z_enumerate (T : Tx K mg) : mg "enumerate" = none := T.free 27 rfl
theorem Tx.z_int (T : Tx K mg) : mg "int" = none := T.free 28 rfl
theorem Tx.z_range (T : Tx K mg) : mg "range" = none := T.free 29 rfl
theorem Tx.z_reversed (T : Tx K mg) : mg "reversed" = none := T.free 30 rfl
theorem Tx.z_sum (T : Tx K mg) : mg "sum" = none := T.free 31 rfl
theorem Tx.z_ValueError (T : Tx K mg) : mg "ValueError" = none := T.free 32 rfl
theorem Tx.z_str (T : Tx K mg) : mg "str" = none := T.free 33 rfl
theorem Tx.z_max (T : Tx K mg) : mg "max" = none := T.free 34 rfl
theorem Tx.z_sorted (T : Tx K mg) : mg "sorted" = none := T.free 35 rfl
theorem Tx.z_min (T : Tx K mg) : mg "min" = none := T.free 36 rfl
theorem Tx.c_MOST_NODES (T : Tx K mg) : ∃ t, mg "MOST_NODES" = some (.int 1000 t) := T.int 37 rfl
theorem Tx.c_MOST_DEEP (T : Tx K mg) : ∃ t, mg "MOST_DEEP" = some (.int 200 t) := T.int 38 rfl
theorem Tx.c_MOST_COUNT (T : Tx K mg) : ∃ t, mg "MOST_COUNT" = some (.int 200 t) := T.int 39 rfl
theorem Tx.g_TerseError (T : Tx K mg) : mg "TerseError" = some (.ref (He.ga K "TerseError")) := T.glo 40 rfl
theorem Tx.x_TerseError (T : Tx K mg) : ExcF K mg "TerseError" := ⟨T.glo 40 rfl, He.exc_ok (T.fct 41 rfl)⟩
theorem Tx.m_TerseError (T : Tx K mg) : PySem.W.exmOne K (.ref (He.ga K "TerseError")) (.ref (He.ga K "TerseError")) = some true := He.exm_ok (T.fct 42 rfl)
theorem Tx.g_BadNumber (T : Tx K mg) : mg "BadNumber" = some (.ref (He.ga K "BadNumber")) := T.glo 43 rfl
theorem Tx.x_BadNumber (T : Tx K mg) : ExcF K mg "BadNumber" := ⟨T.glo 43 rfl, He.exc_ok (T.fct 44 rfl)⟩
theorem Tx.m_BadNumber (T : Tx K mg) : PySem.W.exmOne K (.ref (He.ga K "BadNumber")) (.ref (He.ga K "TerseError")) = some true := He.exm_ok (T.fct 45 rfl)
theorem Tx.g_BadBits (T : Tx K mg) : mg "BadBits" = some (.ref (He.ga K "BadBits")) := T.glo 46 rfl
theorem Tx.x_BadBits (T : Tx K mg) : ExcF K mg "BadBits" := ⟨T.glo 46 rfl, He.exc_ok (T.fct 47 rfl)⟩
theorem Tx.m_BadBits (T : Tx K mg) : PySem.W.exmOne K (.ref (He.ga K "BadBits")) (.ref (He.ga K "TerseError")) = some true := He.exm_ok (T.fct 48 rfl)
theorem Tx.g_BadPlace (T : Tx K mg) : mg "BadPlace" = some (.ref (He.ga K "BadPlace")) := T.glo 49 rfl
theorem Tx.x_BadPlace (T : Tx K mg) : ExcF K mg "BadPlace" := ⟨T.glo 49 rfl, He.exc_ok (T.fct 50 rfl)⟩
theorem Tx.m_BadPlace (T : Tx K mg) : PySem.W.exmOne K (.ref (He.ga K "BadPlace")) (.ref (He.ga K "TerseError")) = some true := He.exm_ok (T.fct 51 rfl)
theorem Tx.g_BadText (T : Tx K mg) : mg "BadText" = some (.ref (He.ga K "BadText")) := T.glo 52 rfl
theorem Tx.x_BadText (T : Tx K mg) : ExcF K mg "BadText" := ⟨T.glo 52 rfl, He.exc_ok (T.fct 53 rfl)⟩
theorem Tx.m_BadText (T : Tx K mg) : PySem.W.exmOne K (.ref (He.ga K "BadText")) (.ref (He.ga K "TerseError")) = some true := He.exm_ok (T.fct 54 rfl)
theorem Tx.g_BadCode (T : Tx K mg) : mg "BadCode" = some (.ref (He.ga K "BadCode")) := T.glo 55 rfl
theorem Tx.x_BadCode (T : Tx K mg) : ExcF K mg "BadCode" := ⟨T.glo 55 rfl, He.exc_ok (T.fct 56 rfl)⟩
theorem Tx.m_BadCode (T : Tx K mg) : PySem.W.exmOne K (.ref (He.ga K "BadCode")) (.ref (He.ga K "TerseError")) = some true := He.exm_ok (T.fct 57 rfl)
theorem Tx.g_BadTree (T : Tx K mg) : mg "BadTree" = some (.ref (He.ga K "BadTree")) := T.glo 58 rfl
theorem Tx.x_BadTree (T : Tx K mg) : ExcF K mg "BadTree" := ⟨T.glo 58 rfl, He.exc_ok (T.fct 59 rfl)⟩
theorem Tx.m_BadTree (T : Tx K mg) : PySem.W.exmOne K (.ref (He.ga K "BadTree")) (.ref (He.ga K "TerseError")) = some true := He.exm_ok (T.fct 60 rfl)
theorem Tx.g_TooMany (T : Tx K mg) : mg "TooMany" = some (.ref (He.ga K "TooMany")) := T.glo 61 rfl
theorem Tx.x_TooMany (T : Tx K mg) : ExcF K mg "TooMany" := ⟨T.glo 61 rfl, He.exc_ok (T.fct 62 rfl)⟩
theorem Tx.m_TooMany (T : Tx K mg) : PySem.W.exmOne K (.ref (He.ga K "TooMany")) (.ref (He.ga K "TerseError")) = some true := He.exm_ok (T.fct 63 rfl)
theorem Tx.g_Counts (T : Tx K mg) : mg "Counts" = some (.ref (He.ga K "Counts")) := T.glo 64 rfl
theorem Tx.k_Counts (T : Tx K mg) : Cls K (He.ga K "Counts") := He.cls_ok (T.fct 65 rfl)
theorem Tx.mk_Counts (T : Tx K mg) : Mk K (He.ga K "Counts") (He.fAd K ("Counts", some "__init__")) := He.mkr_ok (T.fct 66 rfl)
theorem Tx.n_Counts_rows (T : Tx K mg) : NoAttr K (He.ga K "Counts") "rows" := He.noat_ok (T.fct 67 rfl)
theorem Tx.M_Counts_init (T : Tx K mg) : Meth K (He.ga K "Counts") "__init__" (He.fAd K ("Counts", some "__init__")) := He.meth_ok (T.fct 68 rfl)
theorem Tx.M_Counts_ways (T : Tx K mg) : Meth K (He.ga K "Counts") "ways" (He.fAd K ("Counts", some "ways")) := He.meth_ok (T.fct 69 rfl)
theorem Tx.exb (T : Tx K mg) : exB K = true := by
  have h := T.more
  unfold exL at h
  first | exact h | (simp only [Bool.and_eq_true] at h; exact h.1)
theorem Tx.ne_0 (T : Tx K mg) : (He.cT K ("_law_refused_right", none)).2 ≠ (He.cT K ("law", none)).2 := by
  have h := T.more
  unfold exL at h
  simp only [Bool.and_eq_true, decide_eq_true_eq] at h
  exact h.2
theorem Tx.tk__law_refused_right (_ : Tx K mg) : ((He.cT K ("_law_refused_right", none)).2, ((envOfC "_law_refused_right" (defScope (top 38)) 0 0 .none).qual ++ "<lambda>" : Str)) ∈ tK K := by simp [tK]
theorem Tx.tu__law_refused_right (T : Tx K mg) : ∀ p ∈ tK K, p.1 = (He.cT K ("_law_refused_right", none)).2 → p.2 = ((envOfC "_law_refused_right" (defScope (top 38)) 0 0 .none).qual ++ "<lambda>" : Str) := fun p hp e => by
  unfold tK at hp
  simp only [List.mem_cons, List.not_mem_nil, or_false] at hp
  rcases hp with rfl | rfl
  · rfl
  · exact absurd e (Ne.symm T.ne_0)
theorem Tx.tk_law (_ : Tx K mg) : ((He.cT K ("law", none)).2, ((envOfC "law" (defScope (top 39)) 0 0 .none).qual ++ "<lambda>" : Str)) ∈ tK K := by simp [tK]
theorem Tx.tu_law (T : Tx K mg) : ∀ p ∈ tK K, p.1 = (He.cT K ("law", none)).2 → p.2 = ((envOfC "law" (defScope (top 39)) 0 0 .none).qual ++ "<lambda>" : Str) := fun p hp e => by
  unfold tK at hp
  simp only [List.mem_cons, List.not_mem_nil, or_false] at hp
  rcases hp with rfl | rfl
  · exact absurd e T.ne_0
  · rfl
end
end Tw

set_option maxHeartbeats 4000000
namespace Tw
open PySem PySem.Spec PyProof.Rows L2 LamX
/-! ### told(lambda: ..) -/
/-- what is wished of a refusal: its class's name is told -/
def EW (K : PySem.W.Frag) (T : List (Addr × Str)) (Q : VK) : XK := fun cls d H => ∃ x ∈ seven, cls = .ref (He.ga K x) ∧ d = none ∧ ∀ H', Xt T H H' → Q (.str x) H'
/-- the word of the exception -/
def spWord (K : PySem.W.Frag) (T : List (Addr × Str)) : Addr × Obj → List V → Hp → VK → Prop := fun p vs H Q => ∃ x ∈ seven, vs = [.ref p.1] ∧ Zc (.ref (He.ga K x)) none p.2 ∧ (∃ us, p.2.data = .fields us) ∧ ∀ H', Xt T H H' → Q (.str x) H'
/-- the context of told's frame -/
abbrev toldX (X : Cx) (Ng : List Str) (sg : Scope) (g : Addr) (cdg : Value) (s : Shared) (H : Hp) : Cx := cxOf CX0 X.prog X.w X.K X.mg X.base Ng "_law_told" sg g cdg X.A X.stack s H E0
section
variable {X : Cx}
theorem told_gen {Tt : List (Addr × Str)} {g gW c Pt : Addr} {k : Nat} {pg : Arguments} {sg : Scope} {fdT fdW : FuncData} {params : Arguments} {body : Expr} {scope : Scope} {t : XK → TE} {p lpos pos : Pos}
    {p1 p2 p3 p4 p5 p6 p7 p8 p9 p10 : Pos} (hg : Gl X "_law_told") (hm : X.mg "_law_told" = some (.ref g))
    (FT : FunD X.K "_law_told" "_law_told" pg [.Try [.Return (some (.Call (.Name "_law_deed" p1) [] [] p2)) p3] [.ExceptHandler (some (.Name "TerseError" p4)) (some "_law_e") [.Return (some (.Call (.Name "_law_word" p5) [.Name "_law_e" p6] [] p7)) p8] p9] [] [] p10] sg [] [] g fdT)
    (BT : Binds X.K fdT ["_law_deed"] []) (ST : FnScope ["_law_deed", "_law_e"] ["_law_deed"] sg) (l1 : sg.names.lookup ("_law_deed" : Str) = some .local) (l2 : sg.names.lookup ("_law_e" : Str) = some .local) (l3 : sg.names.lookup ("TerseError" : Str) = some .globalImplicit) (l4 : sg.names.lookup ("_law_word" : Str) = some .globalImplicit)
    (gE : X.mg "TerseError" = some (.ref (He.ga X.K "TerseError"))) (gW1 : X.mg "_law_word" = some (.ref gW)) (kW : PySem.W.keepIn X.K (.ref gW) = true) (BW : Binds X.K fdW ["_law_e"] []) (FW : FnHp X.prog X.w X.K X.mg X.base 1 gW fdW ["_law_e"] (spWord X.K Tt)) (xB : exB X.K = true)
    (TB : TabB X.base X.mg c Pt) (hcode : X.env.code = .ref c) (hmT : (Pt, X.env.qual ++ "<lambda>") ∈ Tt) (hu : ∀ p ∈ Tt, p.1 = Pt → p.2 = X.env.qual ++ "<lambda>") (hr : Room (k + 4) X.A) (L : LamS X.env.scope scope) (hdef : defaultsOf params X.env = ([], []))
    (hbind : ∀ (q : Str) (cl : List (Str × Addr)) (pm cv ctv : Value), bindArgs (PySem.W.kla_fn "<lambda>" q params body scope cl pm cv ctv) ⟨[], []⟩ = pure [])
    (hbody : ∀ (A : Around) (outer : List Env) (s : Shared) (H : Hp) (E : XK) (f c' : Addr), Room (k + 2) (A.deeper (lamEnv X scope s.heap.objs.size f c')) → PE (lamN X A outer s H E scope f c') body (t E)) :
    PE X (.Call (.Name "_law_told" p) [.Lambda params body scope lpos] [] pos) (fun σ H Q => Tabs Tt H ∧ ∀ H1, ExtN H H1 → Tabs Tt H1 → t (EW X.K Tt Q) σ H1 Q) := by
  refine ⟨fun pins s σ H Q I ⟨hT, h⟩ => ?_⟩
  obtain ⟨oc, od, dV, kV, doc, pm, an, cdv, ct, osl, rfl, lk, hcg, hD, _⟩ := FT.ex
  have edV : dV = .none := by
    rcases hD with ⟨_, e⟩ | ⟨e, _⟩
    · exact e
    · exact absurd rfl e
  refine wpAny_Call_Name_kw (ld_glob I hg hm ?_ (by decide))
  refine PySem.W.callWith_K (h₀ := X.base) I.ok.mod.kin FT.kp ?_ (by rfl) (by rfl)
  show wpAny _ _ (spliced ((false, eval (.Lambda params body scope lpos) X.env) :: backTo pos (starEach [] X.env))) _ _ s
  refine Calls.spliced_cons (lam_make2 I TB hcode hmT hu hT hdef (L.has I.ok) fun f c' pm' ctv H1 s' I1 eN T1 hf hfn hfr hco => ?_)
  refine Calls.spliced_nil ⟨I1.kIn, ?_⟩
  have b := BT s' [.ref f] I1.kIn rfl
  have rc : codeAny (model X.prog X.w) X.A (.call (.ref g) ⟨[.ref f], []⟩) (CR CX0 X.stack X.prog X.w H1 s' Q E0) s' := by
    refine run_ofS (k := k + 3) (N := ["_law_deed", "_law_e"]) (ps := ["_law_deed"]) (us := [.ref f]) (vs := [.ref f]) lk hcg ST hr I1.env0 b (.cons rfl .nil) rfl fun hr' => ?_
    have word : ∀ (a : Addr) (oe : Obj) (cls : Value) (d : Option Addr) (pn : List (Addr × Obj)), L2N.Zn cls d oe → (∃ vs, oe.data = .fields vs) →
        PSs ((toldX X ["_law_deed", "_law_e"] sg g cdv s' H1).suite a ((a, oe) :: pn)) [.Return (some (.Call (.Name "_law_word" p5) [.Name "_law_e" p6] [] p7)) p8]
          (fun D σ H => (∃ σ0 : L2.St, σ = σ0.set 1 (some (.ref a))) ∧ ∃ x ∈ seven, cls = .ref (He.ga X.K x) ∧ d = none ∧ ∀ H', Xt Tt H H' → D.rt (.str x) H') := by
      intro a oe cls d pn hz hfs
      have hot : L2H.Hot1 ((toldX X ["_law_deed", "_law_e"] sg g cdv s' H1).suite a ((a, oe) :: pn)).A (a, oe) := by
        obtain ⟨vs, hv⟩ := hfs
        exact ⟨rfl, vs, hv, hz.2.2 vs hv⟩
      have hp := pss_one (ps_ret (pos := p8) (pe_callHp (X := (toldX X ["_law_deed", "_law_e"] sg g cdv s' H1).suite a ((a, oe) :: pn)) (x := "_law_word") (q := p5) (pos := p7) (p := (a, oe)) FW
        (L2H.RoomH.mono (k := k + 3) ⟨hr'.dp, hr'.un⟩ (by omega)) hot List.mem_cons_self (show sg.names.lookup ("_law_word" : Str) = _ from l4) gW1 kW BW (pa_cons (pe_var (i := 1) (pos := p6) rfl (.inl l2)) pa_nil) (by decide)))
      refine ⟨fun pins s σ H D I ⟨⟨σ0, h1⟩, x, hx, e1, e2, h2⟩ => hp.run pins s σ H D I ?_⟩
      have hl : σ.length = 2 := I.len
      have h1 : σ[1]? = some (some (.ref a)) := by
        rw [h1] at hl ⊢
        rw [List.length_set] at hl
        rw [List.getElem?_set_self (by omega)]
      refine ⟨.ref a, h1, x, hx, rfl, ?_, hfs, h2⟩
      rw [← e1, ← e2]
      exact hz.zc
    refine ⟨_, PSs.nox (pss_one (L2N.ps_try_as (X := (toldX X ["_law_deed", "_law_e"] sg g cdv s' H1).nox) (c := .ref (He.ga X.K "TerseError")) (i := 1) (Wout := fun _ _ _ _ => False)
      (tb := fun W D σ' H' => ∃ Ech : XK, (∀ cls d σ' H', Ech cls d H' → W cls d σ' H') ∧ σ'[0]? = some (some (.ref f)) ∧ H' c' = some (CodeO c' (X.env.qual ++ "<lambda>")) ∧ t Ech σ H' D.rt)
      rfl rfl ST.nd rfl l2 ⟨l3, by decide, .inl gE⟩ (fun _ _ x => by obtain ⟨_, _, _, _, _, _, _, _, _, _, _, _, _, _, _, _, z⟩ := x; exact z.elim) (fun W pn xe tk _ => ?_) word)), ?_⟩
    · refine ⟨fun pins s2 σ2 H2 D I2 ⟨Ech, hW, h1, h2, h3⟩ => ?_⟩
      have hp := act (pn := pn) (xe := xe) (W := W) (E := Ech) (tb := t Ech) (p1 := p1) (p2 := p2) (a := "_law_deed") (i := 0) (Ng := ["_law_deed", "_law_e"]) (CXg := CX0) (Eg := E0) (qg := "_law_told") (sg := sg) (g := g) (cdg := cdv) I1 L hf hfn hfr (hbind _ _ _ _ _) tk hW hr'
        (fun A outer s H hr2 => hbody A outer s H Ech f c' hr2) rfl (.inl l1) (by decide) (by decide)
      exact (pss_one (ps_ret (pos := p3) hp)).run pins s2 σ2 H2 D I2 ⟨h1, h2, h3⟩
    · refine ⟨EW X.K Tt Q, fun cls d σ2 H2 ⟨x, hx, e1, e2, h2⟩ => ?_, rfl, hco, h H1 eN T1⟩
      refine ⟨true, by rw [e1]; exact (bad_of xB hx).t, fun _ a na => ?_, fun z => by cases z⟩
      exact ⟨⟨σ2, rfl⟩, x, hx, e1, e2, h2⟩
  refine wpAny_call (codeAny_mono rc fun r s2 hq => ?_)
  cases r with
  | error e => exact (show False from hq).elim
  | ok fl =>
    cases fl with
    | ret u => exact I1.after hq
    | next => exact False.elim hq
    | brk => exact False.elim hq
    | cont => exact False.elim hq
end
end Tw

set_option maxHeartbeats 4000000
namespace Tw
open PySem PySem.Spec PyProof.Rows L2 LamX
/-! ### comprehensions whose elements change nothing that stood -/
def Yy (y : Nat → V → Prop) : Nat → Hp → V → Hp → Prop := fun i H x H' => H' = H ∧ y i x
def kept (n : Nat) (f : Nat → Bool) (r : Nat → V) : List V := ((List.range n).filter f).map r
theorem kept_yes {n : Nat} {f : Nat → Bool} {r : Nat → V} (h : f n = true) : kept (n + 1) f r = kept n f r ++ [r n] := by
  unfold kept
  rw [List.range_succ, List.filter_append, List.map_append, List.filter_cons, if_pos h]
  rfl
theorem kept_no {n : Nat} {f : Nat → Bool} {r : Nat → V} (h : f n = false) : kept (n + 1) f r = kept n f r := by
  unfold kept
  rw [List.range_succ, List.filter_append, List.map_append, List.filter_cons, if_neg (by rw [h]; decide)]
  exact List.append_nil _
theorem kept_len (n : Nat) (f : Nat → Bool) (r : Nat → V) : (kept n f r).length ≤ n := by
  unfold kept
  rw [List.length_map]
  exact Nat.le_trans (List.length_filter_le _ _) (by rw [List.length_range]; exact Nat.le_refl _)
theorem kept_all (n : Nat) (r : Nat → V) : kept n (fun _ => true) r = (List.range n).map r := by
  unfold kept
  rw [List.filter_eq_self.mpr fun _ _ => rfl]
section
variable {lo : Prop} {T : List (Addr × Str)} {J : It} {n : Nat} {G : Hp → Prop} {y : Nat → V → Prop} {te : TE} {tt : TT} {j : Nat} {σ : L2.St} {H1 : Hp} {D : Addr} {Qd : Hp → Prop} {f : Nat → Bool} {r : Nat → V}
theorem wipe1 (σ : L2.St) (j : Nat) (x : Option V) : wipe ((wipe σ [j]).set j x) [j] = wipe σ [j] := by
  show ((σ.set j none).set j x).set j none = σ.set j none
  rw [List.set_set, List.set_set]
/-- with a test -/
theorem lcFg (w : Walk J n G (Yy y)) (hD : H1 D = none) (hn : n ≤ 1000000) (hG : ∀ H', Xg lo T H1 H' → G H') (f : Nat → Bool) (r : Nat → V)
    (ht : ∀ i x H', i < n → y i x → Xg lo T H1 H' → ∀ Q : Bool → Hp → Prop, (∀ H4, Xg lo T H' H4 → Q (f i) H4) → tt ((wipe σ [j]).set j (some x)) H' Q)
    (he : ∀ i x H', i < n → y i x → f i = true → Xg lo T H1 H' → ∀ Q : VK, (∀ H4, Xg lo T H' H4 → Q (r i) H4) → te ((wipe σ [j]).set j (some x)) H' Q)
    (hd : ∀ H', Xg lo T H1 H' → H' D = some (.lst (kept n f r)) → Qd H') :
    ∃ W : Nat → Nat → Hp → Prop, (∃ m, W 0 m (upd H1 D (.lst []))) ∧ ∀ i m H, W i m H →
      (J.stop i H ∧ Qd H) ∨ (J.go i H ∧ ∃ Nx : Hp → Prop, (∀ H', Nx H' → ∃ m', m' < m ∧ W (i + 1) m' H') ∧ ∀ x H', J.yld i H x H' → gName j x (wipe σ [j]) H' fun σ2 H2 => wipe σ2 [j] = wipe σ [j] ∧ tt σ2 H2 fun b H3 =>
        if b = true then te σ2 H3 fun y H4 => ∃ acc, H4 D = some (.lst acc) ∧ acc.length < sizeLine ∧ Nx (upd H4 D (.lst (acc ++ [y]))) else Nx H3) := by
  have hz : ∀ i, i < n → (kept i f r).length < sizeLine := fun i hi => Nat.lt_of_le_of_lt (Nat.le_trans (kept_len i f r) (Nat.le_trans (Nat.le_of_lt hi) hn)) (by decide)
  refine lc_it w (fun i H => Xg lo T H1 H ∧ H D = some (.lst (kept i f r))) ⟨Xg.new hD, by rw [upd_same]; rfl⟩ (fun i H _ p => hG H p.1) (fun i x H H' hi p hy => ?_) fun H p => hd H p.1 p.2
  obtain ⟨eH, hy⟩ := hy
  subst eH
  refine ⟨wipe1 σ j _, ht i x H' hi hy p.1 _ fun H4 x4 => ?_⟩
  cases hf : f i with
  | true =>
    refine iteT (he i x H4 hi hy hf (p.1.trans x4) _ fun H5 x5 => ?_)
    have e5 := (x4.trans x5).lst p.2
    refine ⟨kept i f r, e5, hz i hi, ((p.1.trans x4).trans x5).mut (.of hD) e5, ?_⟩
    rw [upd_same, kept_yes hf]
  | false =>
    refine iteF ⟨p.1.trans x4, ?_⟩
    rw [kept_no hf]
    exact x4.lst p.2
/-- without one -/
theorem lcPg (w : Walk J n G (Yy y)) (hD : H1 D = none) (hn : n ≤ 1000000) (hG : ∀ H', Xg lo T H1 H' → G H') (r : Nat → V)
    (he : ∀ i x H', i < n → y i x → Xg lo T H1 H' → ∀ Q : VK, (∀ H4, Xg lo T H' H4 → Q (r i) H4) → te ((wipe σ [j]).set j (some x)) H' Q)
    (hd : ∀ H', Xg lo T H1 H' → H' D = some (.lst ((List.range n).map r)) → Qd H') :
    ∃ W : Nat → Nat → Hp → Prop, (∃ m, W 0 m (upd H1 D (.lst []))) ∧ ∀ i m H, W i m H →
      (J.stop i H ∧ Qd H) ∨ (J.go i H ∧ ∃ Nx : Hp → Prop, (∀ H', Nx H' → ∃ m', m' < m ∧ W (i + 1) m' H') ∧ ∀ x H', J.yld i H x H' → gName j x (wipe σ [j]) H' fun σ2 H2 => wipe σ2 [j] = wipe σ [j] ∧ tYes σ2 H2 fun b H3 =>
        if b = true then te σ2 H3 fun y H4 => ∃ acc, H4 D = some (.lst acc) ∧ acc.length < sizeLine ∧ Nx (upd H4 D (.lst (acc ++ [y]))) else Nx H3) :=
  lcFg w hD hn hG (fun _ => true) r (fun i x H' _ _ _ Q q => q H' Xg.refl) (fun i x H' hi hy _ => he i x H' hi hy) fun H' x' e => hd H' x' (by rw [e, kept_all])
theorem lcF (w : Walk J n G (Yy y)) (hD : H1 D = none) (hn : n ≤ 1000000) (hG : ∀ H', Xg True T H1 H' → G H') (f : Nat → Bool) (r : Nat → V)
    (ht : ∀ i x H', i < n → y i x → Xg True T H1 H' → ∀ Q : Bool → Hp → Prop, (∀ H4, Xg True T H' H4 → Q (f i) H4) → tt ((wipe σ [j]).set j (some x)) H' Q)
    (he : ∀ i x H', i < n → y i x → f i = true → Xg True T H1 H' → ∀ Q : VK, (∀ H4, Xg True T H' H4 → Q (r i) H4) → te ((wipe σ [j]).set j (some x)) H' Q)
    (hd : ∀ H', Xg True T H1 H' → H' D = some (.lst (kept n f r)) → Qd H') :
    ∃ W : Nat → Nat → Hp → Prop, (∃ m, W 0 m (upd H1 D (.lst []))) ∧ ∀ i m H, W i m H →
      (J.stop i H ∧ Qd H) ∨ (J.go i H ∧ ∃ Nx : Hp → Prop, (∀ H', Nx H' → ∃ m', m' < m ∧ W (i + 1) m' H') ∧ ∀ x H', J.yld i H x H' → gName j x (wipe σ [j]) H' fun σ2 H2 => wipe σ2 [j] = wipe σ [j] ∧ tt σ2 H2 fun b H3 =>
        if b = true then te σ2 H3 fun y H4 => ∃ acc, H4 D = some (.lst acc) ∧ acc.length < sizeLine ∧ Nx (upd H4 D (.lst (acc ++ [y]))) else Nx H3) := lcFg w hD hn hG f r ht he hd
theorem lcP (w : Walk J n G (Yy y)) (hD : H1 D = none) (hn : n ≤ 1000000) (hG : ∀ H', Xg True T H1 H' → G H') (r : Nat → V)
    (he : ∀ i x H', i < n → y i x → Xg True T H1 H' → ∀ Q : VK, (∀ H4, Xg True T H' H4 → Q (r i) H4) → te ((wipe σ [j]).set j (some x)) H' Q)
    (hd : ∀ H', Xg True T H1 H' → H' D = some (.lst ((List.range n).map r)) → Qd H') :
    ∃ W : Nat → Nat → Hp → Prop, (∃ m, W 0 m (upd H1 D (.lst []))) ∧ ∀ i m H, W i m H →
      (J.stop i H ∧ Qd H) ∨ (J.go i H ∧ ∃ Nx : Hp → Prop, (∀ H', Nx H' → ∃ m', m' < m ∧ W (i + 1) m' H') ∧ ∀ x H', J.yld i H x H' → gName j x (wipe σ [j]) H' fun σ2 H2 => wipe σ2 [j] = wipe σ [j] ∧ tYes σ2 H2 fun b H3 =>
        if b = true then te σ2 H3 fun y H4 => ∃ acc, H4 D = some (.lst acc) ∧ acc.length < sizeLine ∧ Nx (upd H4 D (.lst (acc ++ [y]))) else Nx H3) := lcPg w hD hn hG r he hd
theorem lcFs (w : Walk J n G (Yy y)) (hD : H1 D = none) (hn : n ≤ 1000000) (hG : ∀ H', Xg False T H1 H' → G H') (f : Nat → Bool) (r : Nat → V)
    (ht : ∀ i x H', i < n → y i x → Xg False T H1 H' → ∀ Q : Bool → Hp → Prop, (∀ H4, Xg False T H' H4 → Q (f i) H4) → tt ((wipe σ [j]).set j (some x)) H' Q)
    (he : ∀ i x H', i < n → y i x → f i = true → Xg False T H1 H' → ∀ Q : VK, (∀ H4, Xg False T H' H4 → Q (r i) H4) → te ((wipe σ [j]).set j (some x)) H' Q)
    (hd : ∀ H', Xg False T H1 H' → H' D = some (.lst (kept n f r)) → Qd H') :
    ∃ W : Nat → Nat → Hp → Prop, (∃ m, W 0 m (upd H1 D (.lst []))) ∧ ∀ i m H, W i m H →
      (J.stop i H ∧ Qd H) ∨ (J.go i H ∧ ∃ Nx : Hp → Prop, (∀ H', Nx H' → ∃ m', m' < m ∧ W (i + 1) m' H') ∧ ∀ x H', J.yld i H x H' → gName j x (wipe σ [j]) H' fun σ2 H2 => wipe σ2 [j] = wipe σ [j] ∧ tt σ2 H2 fun b H3 =>
        if b = true then te σ2 H3 fun y H4 => ∃ acc, H4 D = some (.lst acc) ∧ acc.length < sizeLine ∧ Nx (upd H4 D (.lst (acc ++ [y]))) else Nx H3) := lcFg w hD hn hG f r ht he hd
theorem lcPs (w : Walk J n G (Yy y)) (hD : H1 D = none) (hn : n ≤ 1000000) (hG : ∀ H', Xg False T H1 H' → G H') (r : Nat → V)
    (he : ∀ i x H', i < n → y i x → Xg False T H1 H' → ∀ Q : VK, (∀ H4, Xg False T H' H4 → Q (r i) H4) → te ((wipe σ [j]).set j (some x)) H' Q)
    (hd : ∀ H', Xg False T H1 H' → H' D = some (.lst ((List.range n).map r)) → Qd H') :
    ∃ W : Nat → Nat → Hp → Prop, (∃ m, W 0 m (upd H1 D (.lst []))) ∧ ∀ i m H, W i m H →
      (J.stop i H ∧ Qd H) ∨ (J.go i H ∧ ∃ Nx : Hp → Prop, (∀ H', Nx H' → ∃ m', m' < m ∧ W (i + 1) m' H') ∧ ∀ x H', J.yld i H x H' → gName j x (wipe σ [j]) H' fun σ2 H2 => wipe σ2 [j] = wipe σ [j] ∧ tYes σ2 H2 fun b H3 =>
        if b = true then te σ2 H3 fun y H4 => ∃ acc, H4 D = some (.lst acc) ∧ acc.length < sizeLine ∧ Nx (upd H4 D (.lst (acc ++ [y]))) else Nx H3) := lcPg w hD hn hG r he hd
end
section
variable {lo : Prop} {T : List (Addr × Str)} {J : It} {n : Nat} {G : Hp → Prop} {y : Nat → V → Prop} {te : TE} {j : Nat} {σ : L2.St} {H1 : Hp} {D : Addr} {Qd : Hp → Prop} {r : Nat → V}
/-- without a test, with what is known of the heap at each item -/
theorem lcI (R : Nat → Hp → Prop) (w : Walk J n G (Yy y)) (hD : H1 D = none) (hn : n ≤ 1000000) (hG : ∀ i H', Xg lo T H1 H' → R i H' → G H') (h0 : R 0 H1) (hR : ∀ i H xs, Xg lo T H1 H → R i H → R i (upd H D (.lst xs))) (r : Nat → V)
    (he : ∀ i x H', i < n → y i x → Xg lo T H1 H' → R i H' → ∀ Q : VK, (∀ H4, Xg lo T H' H4 → R (i + 1) H4 → Q (r i) H4) → te ((wipe σ [j]).set j (some x)) H' Q)
    (hd : ∀ H', Xg lo T H1 H' → R n H' → H' D = some (.lst ((List.range n).map r)) → Qd H') :
    ∃ W : Nat → Nat → Hp → Prop, (∃ m, W 0 m (upd H1 D (.lst []))) ∧ ∀ i m H, W i m H →
      (J.stop i H ∧ Qd H) ∨ (J.go i H ∧ ∃ Nx : Hp → Prop, (∀ H', Nx H' → ∃ m', m' < m ∧ W (i + 1) m' H') ∧ ∀ x H', J.yld i H x H' → gName j x (wipe σ [j]) H' fun σ2 H2 => wipe σ2 [j] = wipe σ [j] ∧ tYes σ2 H2 fun b H3 =>
        if b = true then te σ2 H3 fun y H4 => ∃ acc, H4 D = some (.lst acc) ∧ acc.length < sizeLine ∧ Nx (upd H4 D (.lst (acc ++ [y]))) else Nx H3) := by
  refine lc_it w (fun i H => Xg lo T H1 H ∧ R i H ∧ H D = some (.lst ((List.range i).map r))) ⟨Xg.new hD, hR 0 H1 [] .refl h0, by rw [upd_same]; rfl⟩ (fun i H _ p => hG i H p.1 p.2.1) (fun i x H H' hi p hy => ?_) fun H p => hd H p.1 p.2.1 p.2.2
  obtain ⟨eH, hy⟩ := hy
  subst eH
  refine ⟨wipe1 σ j _, ?_⟩
  unfold tYes
  refine iteT ?_
  refine he i x _ hi hy p.1 p.2.1 _ fun H5 x5 r5 => ?_
  have e5 := x5.lst p.2.2
  refine ⟨_, e5, ?_, (p.1.trans x5).mut (.of hD) e5, hR (i + 1) H5 _ (p.1.trans x5) r5, ?_⟩
  · rw [List.length_map, List.length_range]
    exact Nat.lt_of_lt_of_le hi (Nat.le_trans hn (by decide))
  · rw [upd_same, List.range_succ, List.map_append]
    rfl
end
section
variable {K : PySem.W.Frag} {a : Addr} {xs : List V}
theorem w_list : Walk (Itl K a) xs.length (fun H => SqL K H a xs) (Yy fun i x => xs[i]? = some x) := walk_list
theorem w_range {lo : Int} {n : Nat} : Walk (Itr lo n) n (fun _ => True) (Yy fun i x => x = .int (lo + i)) := walk_range
theorem w_rangeC {lo c : Int} {n : Nat} : Walk (Itc lo c n) n (fun _ => True) (Yy fun i x => x = .int (lo + (i : Nat) * c)) := walk_rangeC
end
theorem small_up {a b c : Int} (ha : 0 ≤ a ∧ a ≤ 1000000) (hb : 0 ≤ b ∧ b ≤ 1000000) (hc : 1 ≤ c ∧ c ≤ 1000000) : Builtin.Range.small a b c = true := by
  unfold Builtin.Range.small Builtin.Range.rangeSize
  have h1 : (b - a - 1) / c ≤ b - a - 1 ∨ b - a - 1 < 0 := by
    by_cases h : b - a - 1 < 0
    · exact .inr h
    · exact .inl (Int.ediv_le_self _ (by omega))
  have h2 : 0 ≤ (b - a - 1) / c ∨ b - a - 1 < 0 := by
    by_cases h : b - a - 1 < 0
    · exact .inr h
    · exact .inl (Int.ediv_nonneg (by omega) (by omega))
  simp only [Builtin.Range.rangeFitsLong, Bool.and_eq_true, Bool.or_eq_true, decide_eq_true_eq, beq_iff_eq, show c > 0 by omega, if_true]
  split <;> omega
/-! ### texts by their codes -/
def S (l : List Nat) : Str := ⟨l.toArray⟩
theorem S_app (a b : List Nat) : S a ++ S b = S (a ++ b) := by
  show (⟨a.toArray ++ b.toArray⟩ : Str) = ⟨(a ++ b).toArray⟩
  rw [List.append_toArray]
theorem S_len (l : List Nat) : (S l).length = l.length := by
  show l.toArray.size = l.length
  exact List.size_toArray
theorem S_inj {a b : List Nat} (h : S a = S b) : a = b := by
  have e : (S a).cps = (S b).cps := congrArg Str.cps h
  have e2 : a.toArray = b.toArray := e
  exact congrArg Array.toList e2
theorem S_of (z : Str) : z = S z.cps.toList := by
  cases z
  rfl
theorem w_str {l : List Nat} : Walk (Its (S l)) l.length (fun _ => True) (Yy fun i x => ∃ c, l[i]? = some c ∧ x = .str (S [c])) := by
  have h := walk_str (z := S l)
  have e : (S l).cps.size = l.length := S_len l
  rw [e] at h
  refine h.mono (fun _ _ => trivial) fun i H x H' _ _ y => ⟨y.1, ?_⟩
  obtain ⟨c, h1, h2⟩ := y.2
  exact ⟨c, by simpa [S] using h1, h2⟩
/-- bits as a text -/
def bc (b : Bool) : Nat := if b then 49 else 48
def sb (l : List Bool) : Str := S (l.map bc)
theorem sb_app (a b : List Bool) : sb a ++ sb b = sb (a ++ b) := by
  unfold sb
  rw [S_app, List.map_append]
theorem sb_len (l : List Bool) : (sb l).length = l.length := by
  unfold sb
  rw [S_len, List.length_map]
theorem bc_inj {a b : Bool} (h : bc a = bc b) : a = b := by
  cases a <;> cases b <;> first | rfl | cases h
theorem sb_inj {a b : List Bool} (h : sb a = sb b) : a = b := by
  have e := S_inj h
  exact (List.map_inj_right (f := bc) fun x y => bc_inj).mp e
theorem sb_nil : (Str.ofString "" : Str) = sb [] := by decide +kernel
theorem sb_0 : (Str.ofString "0" : Str) = sb [false] := by decide +kernel
theorem sb_1 : (Str.ofString "1" : Str) = sb [true] := by decide +kernel
/-! ### slices -/
theorem cut_S (l : List Nat) (i j : Nat) : cutS (S l) (some (i : Int)) (some (j : Int)) = S ((l.take j).drop i) := by
  unfold cutS
  rw [HT.sIx_nat, HT.sIx_nat, S_len]
  show (⟨_⟩ : Str) = ⟨_⟩
  congr 2
  show ((l.drop (min i l.length)).take (min j l.length - min i l.length)) = _
  rw [List.drop_take]
  by_cases hi : i ≤ l.length
  · rw [Nat.min_eq_left hi]
    by_cases hj : j ≤ l.length
    · rw [Nat.min_eq_left hj]
    · rw [Nat.min_eq_right (by omega), List.take_of_length_le (by rw [List.length_drop]; omega), List.take_of_length_le (by rw [List.length_drop]; omega)]
  · rw [List.drop_eq_nil_of_le (by omega : l.length ≤ min i l.length), List.drop_eq_nil_of_le (by omega : l.length ≤ i)]
    simp
theorem cut_sb (l : List Bool) (i j : Nat) : cutS (sb l) (some (i : Int)) (some (j : Int)) = sb ((l.take j).drop i) := by
  unfold sb
  rw [cut_S, List.map_drop, List.map_take]
end Tw

set_option maxHeartbeats 4000000
namespace Tw
open PySem PySem.Spec PyProof.Rows L2 LamX
/-! ### how many bits a number needs -/
def nd (n : Nat) : Nat := if h : n = 0 then 0 else nd (n / 2) + 1
theorem nd_zero : nd 0 = 0 := by rw [nd]; rfl
theorem nd_pos {n : Nat} (h : 0 < n) : nd n = nd (n / 2) + 1 := by
  rw [nd, dif_neg (Nat.ne_of_gt h)]
theorem nd_le : ∀ (w n : Nat), nd n ≤ w ↔ n < 2 ^ w
  | 0, n => by
    rcases Nat.eq_zero_or_pos n with h | h
    · subst h; rw [nd_zero]; decide
    · rw [nd_pos h]; simp; omega
  | w + 1, n => by
    rcases Nat.eq_zero_or_pos n with h | h
    · subst h; rw [nd_zero]; simp [Nat.pow_pos]
    · rw [nd_pos h, Nat.pow_succ]
      have := nd_le w (n / 2)
      omega
theorem nd_lo2 {n : Nat} (h : 0 < n) : 0 < nd n := by rw [nd_pos h]; omega
theorem nd_le_self (n : Nat) : nd n ≤ n := (nd_le n n).mpr Nat.lt_two_pow_self
/-! ### a number in so many bits -/
def bn (n : Nat) : Nat → List Bool
  | 0 => []
  | w + 1 => bn (n / 2) w ++ [n % 2 == 1]
theorem bn_len : ∀ (w n : Nat), (bn n w).length = w
  | 0, _ => rfl
  | w + 1, n => by rw [bn, List.length_append, bn_len w]; rfl
theorem bn_front : ∀ (w n : Nat), bn n (w + 1) = (n / 2 ^ w % 2 == 1) :: bn n w
  | 0, n => by simp [bn]
  | w + 1, n => by
    rw [bn, bn_front w (n / 2), bn, List.cons_append, Nat.div_div_eq_div_mul, Nat.pow_succ, Nat.mul_comm]
/-- the number that bits tell -/
def vb (l : List Bool) : Nat := l.foldl (fun a b => 2 * a + b.toNat) 0
theorem vb_snoc (l : List Bool) (b : Bool) : vb (l ++ [b]) = 2 * vb l + b.toNat := by
  unfold vb
  rw [List.foldl_append]
  rfl
theorem vb_bn : ∀ (w n : Nat), vb (bn n w) = n % 2 ^ w
  | 0, n => by simp [bn, vb, Nat.mod_one]
  | w + 1, n => by
    rw [bn, vb_snoc, vb_bn w (n / 2)]
    have e : (n % 2 == 1).toNat = n % 2 := by
      rcases Nat.mod_two_eq_zero_or_one n with h | h <;> rw [h] <;> rfl
    rw [e, Nat.pow_succ, Nat.mul_comm (2 ^ w) 2, Nat.mod_mul]
    omega
theorem bn_vb_lt {w n : Nat} (h : n < 2 ^ w) : vb (bn n w) = n := by rw [vb_bn, Nat.mod_eq_of_lt h]
theorem vb_from : ∀ (l : List Bool) (a : Nat), l.foldl (fun a b => 2 * a + b.toNat) a < (a + 1) * 2 ^ l.length
  | [], a => by simp
  | b :: r, a => by
    have h := vb_from r (2 * a + b.toNat)
    have hb : b.toNat ≤ 1 := by cases b <;> decide
    refine Nat.lt_of_lt_of_le h ?_
    rw [List.length_cons, Nat.pow_succ, Nat.mul_comm (2 ^ r.length) 2, ← Nat.mul_assoc]
    exact Nat.mul_le_mul_right _ (by omega)
theorem vb_lt (l : List Bool) : vb l < 2 ^ l.length := by
  have h := vb_from l 0
  rw [Nat.zero_add, Nat.one_mul] at h
  exact h
/-! ### the text of a bit, a sign's number -/
theorem str_bit (n : Nat) : (Str.ofString (toString ((n : Int) % 2)) : Str) = sb [n % 2 == 1] := by
  rcases Nat.mod_two_eq_zero_or_one n with h | h
  · have e : (n : Int) % 2 = 0 := by omega
    rw [e, h]
    decide +kernel
  · have e : (n : Int) % 2 = 1 := by omega
    rw [e, h]
    decide +kernel
theorem int_bit (b : Bool) : PySem.intText? (S [bc b]) = some (b.toNat : Int) := by
  cases b <;> decide +kernel
theorem toNat_lt (b : Bool) : (b.toNat : Int) ≤ 1 := by cases b <;> decide
/-! ### bits and other texts -/
def IsB (z : Str) : Prop := ∃ l, z = sb l
theorem isB_iff (l : List Nat) : IsB (S l) ↔ ∀ c ∈ l, c = 48 ∨ c = 49 := by
  constructor
  · rintro ⟨m, e⟩ c hc
    rw [S_inj e] at hc
    obtain ⟨b, _, rfl⟩ := List.mem_map.mp hc
    cases b
    · exact .inl rfl
    · exact .inr rfl
  · intro h
    refine ⟨l.map fun c => c == 49, ?_⟩
    unfold sb
    congr 1
    rw [List.map_map]
    conv => lhs; rw [← List.map_id l]
    refine List.map_congr_left fun c hc => ?_
    rcases h c hc with rfl | rfl <;> rfl
theorem signs01 : (Str.ofString "01" : Str).cps.toList = [48, 49] := by decide +kernel
theorem all_bits (l : List Nat) : ((List.range l.length).map fun i => decide (l.getD i 0 ∈ [48, 49])).all id = decide (∀ c ∈ l, c = 48 ∨ c = 49) := by
  rw [Bool.eq_iff_iff]
  simp only [List.all_eq_true, List.mem_map, List.mem_range, decide_eq_true_eq, id]
  constructor
  · intro h c hc
    obtain ⟨i, hi, rfl⟩ := List.mem_iff_getElem.mp hc
    have := h _ ⟨i, hi, rfl⟩
    rw [decide_eq_true_eq, List.getD_eq_getElem?_getD, List.getElem?_eq_getElem hi] at this
    simpa using this
  · rintro h b ⟨i, hi, rfl⟩
    rw [decide_eq_true_eq, List.getD_eq_getElem?_getD, List.getElem?_eq_getElem hi]
    simpa using h _ (List.getElem_mem hi)
/-! ### joined -/
theorem join_S : ∀ ls : List (List Nat), Txt.join (S []) (ls.map S) = S ls.flatten := by
  intro ls
  rw [show Txt.join (S []) (ls.map S) = Str.join (S []) (ls.map S) from StrLaws.glued_eq_join _ _]
  induction ls with
  | nil => rfl
  | cons a r ih =>
    cases r with
    | nil => show S a = _; rw [List.flatten_cons, List.flatten_nil, List.append_nil]
    | cons b r =>
      show S a ++ S [] ++ Str.join (S []) ((b :: r).map S) = _
      rw [ih, S_app, S_app, List.append_nil]
      rfl
theorem join_sb (ls : List (List Bool)) : Txt.join (sb []) (ls.map sb) = sb ls.flatten := by
  have e := join_S (ls.map (List.map bc))
  rw [List.map_map] at e
  rw [show (ls.map sb) = ls.map (S ∘ List.map bc) from rfl, show sb [] = S [] from rfl, e]
  unfold sb
  rw [List.map_flatten]
theorem sum_len (ls : List (List Bool)) : (ls.map sb).map Str.length = ls.map List.length := by
  rw [List.map_map]
  exact List.map_congr_left fun l _ => sb_len l
/-! ### packed -/
def pk (ns : List Nat) (w : Nat) : List Bool := (ns.map fun n => bn n w).flatten
theorem pk_len (ns : List Nat) (w : Nat) : (pk ns w).length = ns.length * w := by
  unfold pk
  induction ns with
  | nil => simp
  | cons n r ih => rw [List.map_cons, List.flatten_cons, List.length_append, ih, bn_len, List.length_cons, Nat.succ_mul]; omega
/-- the part of w bits at i -/
def part (l : List Bool) (w i : Nat) : List Bool := (l.take (i * w + w)).drop (i * w)
theorem part_pk : ∀ (ns : List Nat) (w i : Nat) (n : Nat), ns[i]? = some n → part (pk ns w) w i = bn n w
  | [], _, _, _, h => by simp at h
  | m :: r, w, 0, n, h => by
    have e : m = n := by simpa using h
    subst e
    unfold part pk
    rw [List.map_cons, List.flatten_cons, Nat.zero_mul, Nat.zero_add, List.drop_zero, List.take_append_of_le_length (by rw [bn_len]; exact Nat.le_refl _), List.take_of_length_le (by rw [bn_len]; exact Nat.le_refl _)]
  | m :: r, w, i + 1, n, h => by
    have ih := part_pk r w i n (by simpa using h)
    rw [← ih]
    unfold part pk
    rw [List.map_cons, List.flatten_cons]
    have e1 : (i + 1) * w + w = (bn m w).length + (i * w + w) := by rw [bn_len, Nat.succ_mul]; omega
    have e2 : (i + 1) * w = (bn m w).length + i * w := by rw [bn_len, Nat.succ_mul]; omega
    rw [e1, List.take_length_add_append, e2, List.drop_length_add_append]
end Tw

set_option maxHeartbeats 4000000
namespace Tw
open PySem PySem.Spec PyProof.Rows L2 LamX
section
variable {P : Program} {w : World} {K : PySem.W.Frag} {mg : Str → Option Value} {base : Heap} {x qual : Str} {params : Arguments} {body : List Stmt} {scope : Scope} {fd : FuncData} {at_ : He.Defn}
/-- the rule for a def that makes lambdas: its code object is known -/
theorem okC {CX : CXT} {N ps : List Str} {k : Nat} {sp : Sp} (F : FunD K x qual params body scope [] [] (He.fAd K at_) fd) (S : FnScope N ps scope) (len : ∀ vs H Q E, sp vs H Q E → vs.length = ps.length)
    (hbody : ∀ (A : Around) (outer : List Env) (s : Shared) (H : Hp) (vs : List V) (Q : VK) (E : XK), Room k (A.deeper (envOfC qual scope s.heap.objs.size (He.fAd K at_) (.ref (He.cT K at_).1))) → sp vs H Q E →
      ∃ t, PSs (cxOf CX P w K mg base N qual scope (He.fAd K at_) (.ref (He.cT K at_).1) A outer s H E) body t ∧ t { nx := fun _ H' => Q .non H', rt := Q } (L2.start N vs) H) : FnOk P w K mg base CX (k + 1) (He.fAd K at_) fd ps sp := by
  obtain ⟨oc, od, dV, kV, doc, pm, an, cdv, ct, osl, rfl, lk, hcd, _, _⟩ := F.ex
  obtain ⟨c, e⟩ := He.codeIn_ref hcd
  have e2 : cdv = .ref (He.cT K at_).1 := by
    rw [e]
    exact congrArg Value.ref (He.codeOf_eq lk e).symm
  subst e2
  exact fn_of lk hcd S len fun A outer s H vs Q E hr hsp => hbody A outer s H vs Q E hr hsp
end
/-- the empty tables of the start -/
theorem tabs_start {K : PySem.W.Frag} {H : Hp} {tf : List He.Defn} {q : He.Defn → Str} (h : ∀ p ∈ tf.map (He.cT K), H p.2 = some (.tbl #[])) : Tabs (tf.map fun d => ((He.cT K d).2, q d)) H := fun p hp => by
  obtain ⟨d, hd, rfl⟩ := List.mem_map.mp hp
  exact TabS.nil (h _ (List.mem_map_of_mem hd))
end Tw

set_option maxHeartbeats 4000000
namespace Tw
open PySem PySem.Spec PyProof.Rows L2 LamX
/-! ### data compared -/
def Sh (n : Nat) (d : PyData) : Prop := d.canLay0 = true ∧ d.depth ≤ n
section
variable {n m : Nat} {d e : PyData} {ds : List PyData}
theorem Sh.shaped (h : Sh n d) (hn : n ≤ 64) : SeqAt.shaped d = true := by
  unfold SeqAt.shaped
  rw [h.1, Bool.true_and]
  exact decide_eq_true (Nat.le_trans h.2 hn)
theorem Sh.mono (h : Sh n d) (hn : n ≤ m) : Sh m d := ⟨h.1, Nat.le_trans h.2 hn⟩
theorem sh_int {i : Int} : Sh n (.int i) := ⟨rfl, Nat.zero_le _⟩
theorem sh_bl {b : Bool} : Sh n (.bool b) := ⟨rfl, Nat.zero_le _⟩
theorem sh_non : Sh n .none := ⟨rfl, Nat.zero_le _⟩
theorem sh_str {x : Str} (h : PyData.strOk x = true) : Sh n (.str x) := ⟨h, Nat.zero_le _⟩
theorem sh_all : ∀ {ds : List PyData}, (∀ d ∈ ds, Sh n d) → PyData.canLayAll0 ds = true ∧ PyData.depthAll ds ≤ n
  | [], _ => ⟨rfl, Nat.zero_le _⟩
  | d :: ds, h => by
    obtain ⟨h1, h2⟩ := sh_all (ds := ds) fun x hx => h x (List.mem_cons_of_mem _ hx)
    obtain ⟨h3, h4⟩ := h d (List.mem_cons_self ..)
    refine ⟨?_, ?_⟩
    · show (d.canLay0 && PyData.canLayAll0 ds) = true
      rw [h1, h3]
      rfl
    · show max d.depth (PyData.depthAll ds) ≤ n
      omega
theorem sh_lst (h : ∀ d ∈ ds, Sh n d) : Sh (n + 1) (.list ds) := ⟨(sh_all h).1, Nat.succ_le_succ (sh_all h).2⟩
theorem sh_tup (h : ∀ d ∈ ds, Sh n d) : Sh (n + 1) (.tuple ds) := ⟨(sh_all h).1, Nat.succ_le_succ (sh_all h).2⟩
theorem sh_map {α : Type} {g : α → PyData} {l : List α} (h : ∀ x ∈ l, Sh n (g x)) : ∀ d ∈ l.map g, Sh n d := fun d hd => by
  obtain ⟨x, hx, rfl⟩ := List.mem_map.mp hd
  exact h x hx
theorem strOk_S {l : List Nat} (h : ∀ c ∈ l, c < 1114112) : PyData.strOk (S l) = true := by
  unfold PyData.strOk S
  rw [Array.all_eq_true_iff_forall_mem]
  intro c hc
  exact decide_eq_true (h c (by simpa using hc))
theorem strOk_sb (l : List Bool) : PyData.strOk (sb l) = true := strOk_S fun c hc => by
  obtain ⟨b, _, rfl⟩ := List.mem_map.mp hc
  cases b <;> decide
end
section
variable {lo : Prop} {K : PySem.W.Frag} {T : List (Addr × Str)} {H H' : Hp} {Q : VK} {x y : V} {d e : PyData} {n : Nat} {a : Addr}
theorem neD_same (hx : Dp K H x d) (hy : Dp K H y d) (s : Sh 64 d) (q : Q (.bl false) H) : rNeD K x y H Q := by
  refine ⟨d, d, hx, hy, s.shaped (Nat.le_refl _), s.shaped (Nat.le_refl _), ?_⟩
  rw [PySem.SeqAt.eqv_refl d s.1]
  exact q
theorem neC_same {σ : L2.St} (hx : Dp K H x d) (hy : Dp K H y d) (s : Sh 64 d) (q : Q (.bl false) H) : tC y σ H fun y H2 => rNeD K x y H2 Q := neD_same hx hy s q
theorem eqD_same (hx : Dp K H x d) (hy : Dp K H y d) (s : Sh 64 d) (q : Q (.bl true) H) : rEqD K x y H Q := by
  refine ⟨d, d, hx, hy, s.shaped (Nat.le_refl _), s.shaped (Nat.le_refl _), ?_⟩
  rw [PySem.SeqAt.eqv_refl d s.1]
  exact q
theorem neD_diff (hx : Dp K H x d) (hy : Dp K H y e) (sx : Sh 64 d) (sy : Sh 64 e) (h : PyData.eqv d e = false) (q : Q (.bl true) H) : rNeD K x y H Q := by
  refine ⟨d, e, hx, hy, sx.shaped (Nat.le_refl _), sy.shaped (Nat.le_refl _), ?_⟩
  rw [h]
  exact q
theorem eqD_of (hx : Dp K H x d) (hy : Dp K H y e) (sx : Sh 64 d) (sy : Sh 64 e) (q : Q (.bl (PyData.eqv d e)) H) : rEqD K x y H Q := ⟨d, e, hx, hy, sx.shaped (Nat.le_refl _), sy.shaped (Nat.le_refl _), q⟩
theorem neD_of (hx : Dp K H x d) (hy : Dp K H y e) (sx : Sh 64 d) (sy : Sh 64 e) (q : Q (.bl (!PyData.eqv d e)) H) : rNeD K x y H Q := ⟨d, e, hx, hy, sx.shaped (Nat.le_refl _), sy.shaped (Nat.le_refl _), q⟩
theorem dpAll_map {α : Type} {f : α → V} {g : α → PyData} : ∀ {l : List α}, (∀ x ∈ l, Dp K H (f x) (g x)) → DpAll K H (l.map f) (l.map g)
  | [], _ => .nil
  | x :: l, h => .cons (h x (List.mem_cons_self ..)) (dpAll_map fun y hy => h y (List.mem_cons_of_mem _ hy))
theorem dp_lst {α : Type} {f : α → V} {g : α → PyData} {l : List α} (s : SqL K H a (l.map f)) (h : ∀ x ∈ l, Dp K H (f x) (g x)) : Dp K H (.ref a) (.list (l.map g)) := .lst s (dpAll_map h)
theorem dp_ints {l : List Int} (s : SqL K H a (l.map .int)) : Dp K H (.ref a) (.list (l.map .int)) := dp_lst s fun x _ => .int x
theorem dp_strs {l : List Str} (s : SqL K H a (l.map .str)) : Dp K H (.ref a) (.list (l.map .str)) := dp_lst s fun x _ => .str x
theorem sh_ints {l : List Int} : Sh (n + 1) (.list (l.map .int)) := sh_lst (sh_map fun _ _ => sh_int)
theorem sh_strs {l : List Str} (h : ∀ x ∈ l, PyData.strOk x = true) : Sh (n + 1) (.list (l.map .str)) := sh_lst (sh_map fun x hx => sh_str (h x hx))
mutual
theorem Xg.dp (X : Xg lo T H H') : ∀ (d : PyData) (v : V), Dp K H v d → Dp K H' v d
  | .none, _, h => by cases h; exact .non
  | .bool b, _, h => by cases h; exact .bl b
  | .int i, _, h => by cases h; exact .int i
  | .str x, _, h => by cases h; exact .str x
  | .list ds, _, h => by
    cases h with
    | lst s h => exact .lst (X.seq s) (Xg.dpAll X ds _ h)
  | .tuple ds, _, h => by
    cases h with
    | tup s h => exact .tup (X.seqT s) (Xg.dpAll X ds _ h)
  | .dict _, _, h => by cases h
theorem Xg.dpAll (X : Xg lo T H H') : ∀ (ds : List PyData) (vs : List V), DpAll K H vs ds → DpAll K H' vs ds
  | [], _, h => by cases h; exact .nil
  | d :: ds, _, h => by
    cases h with
    | cons h1 h2 => exact .cons (Xg.dp X d _ h1) (Xg.dpAll X ds _ h2)
end
/-- lists of numbers, told alike -/
theorem eqvAll_ints : ∀ (l m : List Int), PyData.eqvAll (l.map .int) (m.map .int) = decide (l = m)
  | [], [] => rfl
  | [], _ :: _ => rfl
  | _ :: _, [] => rfl
  | x :: l, y :: m => by
    show ((x == y) && PyData.eqvAll (l.map .int) (m.map .int)) = _
    rw [eqvAll_ints l m, Bool.eq_iff_iff]
    simp
theorem eqv_ints (l m : List Int) : PyData.eqv (.list (l.map .int)) (.list (m.map .int)) = decide (l = m) := eqvAll_ints l m
end
end Tw

set_option maxHeartbeats 4000000
namespace Tw
open PySem PySem.Spec PyProof.Rows L2 LamX
/-! ### rules, the written part by its own name -/
section
variable {X : Cx} {K : PySem.W.Frag} (eK : X.K = K)
def rLenQ (K : PySem.W.Frag) : List V → Hp → VK → Prop := fun xs H Q => ∃ p ys, xs = [.ref p] ∧ (SqL K H p ys ∨ SqT K H p ys) ∧ Q (.int ys.length) H
def rListQ (K : PySem.W.Frag) : List V → Hp → VK → Prop := fun xs H Q => ∃ p ys, xs = [.ref p] ∧ (SqL K H p ys ∨ SqT K H p ys) ∧ ∀ l, H l = none → Q (.ref l) (upd H l (.lst ys))
include eK
theorem call_len_seqK : CallR X (.builtin "len") (rLenQ K) := by subst eK; exact call_len_seq
theorem call_list_ofK : CallR X (.type "list") (rListQ K) := by subst eK; exact call_list_of
theorem ix_listK : IxR X (rIxL K) := by subst eK; exact ix_list
theorem ix_tupK : IxR X (rIxT K) := by subst eK; exact ix_tup
theorem sl_listK : SlR X (rSlL K) := by subst eK; exact sl_list
theorem op_eqDK (hu : X.A.units + 64 < cLine) : OpR X (compareOp .Eq) (rEqD K) := by subst eK; exact op_eqD hu
theorem op_neDK (hu : X.A.units + 64 < cLine) : OpR X (compareOp .NotEq) (rNeD K) := by subst eK; exact op_neD hu
theorem cr_maxK (hc : X.calm = true) : CallR X (.builtin "max") (rMax K) := by subst eK; exact cr_max hc
theorem cr_minK (hc : X.calm = true) : CallR X (.builtin "min") (rMin K) := by subst eK; exact cr_min hc
theorem cr_allK (hc : X.calm = true) : CallR X (.builtin "all") (rAll K) := by subst eK; exact cr_all hc
theorem cr_sumK (hc : X.calm = true) : CallR X (.builtin "sum") (rSum K) := by subst eK; exact cr_sum hc
theorem mt_indexK : MtR X "list.index" (rIndex K) := by subst eK; exact mt_index
theorem op_in_seqK : OpR X (compareOp .In) (rIn K false) := by subst eK; exact op_in_seq
theorem op_notIn_seqK : OpR X (compareOp .NotIn) (rIn K true) := by subst eK; exact op_notIn_seq
theorem call_isiK : CallR X (.builtin "isinstance") (rIsi K) := by subst eK; exact call_isi
theorem cr_sortedIK : CallR X (.builtin "sorted") (rSortedI K) := by subst eK; exact cr_sortedI
end
section
variable {X : Cx} {K : PySem.W.Frag} {tg : Expr}
theorem pi_listK (eK : X.K = K) {l : Expr} {tl : TE} (hl : PE X l tl) : PI X tg l (iList K tl) := by subst eK; exact pi_list hl
theorem pi_tupK (eK : X.K = K) {l : Expr} {tl : TE} (hl : PE X l tl) : PI X tg l (iTup K tl) := by subst eK; exact pi_tup hl
def rJoin (K : PySem.W.Frag) : V → List V → Hp → VK → Prop := fun x xs H Q => ∃ a p, ∃ ys : List Str, x = .str a ∧ xs = [.ref p] ∧ (SqL K H p (ys.map V.str) ∨ SqT K H p (ys.map V.str)) ∧ (ys.map (·.length)).sum + ys.length * a.length ≤ 16777216 ∧ Q (.str (Txt.join a ys)) H
theorem pe_joinK (eK : X.K = K) {o e : Expr} {to te : TE} {apos pos : Pos} (ho : PE X o to) (he : PE X e te) (hs : starEach [e] X.env = [(false, eval e X.env)]) (hbase : attributeBase o "join" X.env (eval o X.env) = eval o X.env) (hline : (apos.endLine == pos.line) = true) :
    PE X (.Call (.Attribute o "join" apos) [e] [] pos) (tM1 (rJoin K) to te) := by subst eK; exact pe_join ho he hs hbase hline
theorem pi_enumK (eK : X.K = K) {e : Expr} {ta : TA} {p pos tpos : Pos} {elts : List Expr} {kk : Nat} (hg : Gl X "enumerate") (hm : X.mg "enumerate" = none) (ha : PA X [e] ta) (hs : starEach [e] X.env = [(false, eval e X.env)]) :
    PI X (.Tuple elts kk tpos) (.Call (.Name "enumerate" p) [e] [] pos) (iEnum K ta) := by subst eK; exact pi_enum hg hm ha hs
theorem pi_zipK (eK : X.K = K) {e e2 : Expr} {ta : TA} {p pos tpos : Pos} {elts : List Expr} {kk : Nat} (hg : Gl X "zip") (hm : X.mg "zip" = none) (ha : PA X [e, e2] ta)
    (hs : starEach [e, e2] X.env = (false, eval e X.env) :: starEach [e2] X.env) (hpl : (backTo pos (starEach [e2] X.env)).any (·.1) = false) :
    PI X (.Tuple elts kk tpos) (.Call (.Name "zip" p) [e, e2] [] pos) (iZip K ta) := by subst eK; exact pi_zip hg hm ha hs hpl
theorem pi_reversedK (eK : X.K = K) {e : Expr} {ta : TA} {p pos : Pos} (hg : Gl X "reversed") (hm : X.mg "reversed" = none) (ha : PA X [e] ta) (hs : starEach [e] X.env = [(false, eval e X.env)]) : PI X tg (.Call (.Name "reversed" p) [e] [] pos) (iRev K ta) := by subst eK; exact pi_reversed hg hm ha hs
theorem pg_tupK (eK : X.K = K) {es : List Expr} {k : Nat} {t : TGs} {n : Nat} {pos : Pos} (hc : X.calm = true) (h : PGs X es t)
    (hn : (assignEach es X.env).length = n) (hst : (assignEach es X.env).findIdx? (·.1) = none) : PG X (.Tuple es k pos) (gTup K n t) := by subst eK; exact pg_tup hc h hn hst
theorem pg_lstK (eK : X.K = K) {es : List Expr} {k : Nat} {t : TGs} {n : Nat} {pos : Pos} (hc : X.calm = true) (h : PGs X es t)
    (hn : (assignEach es X.env).length = n) (hst : (assignEach es X.env).findIdx? (·.1) = none) : PG X (.Tuple es k pos) (gLst K n t) := by subst eK; exact pg_lst hc h hn hst
theorem pe_fldK (eK : X.K = K) {e : Expr} {ta : TE} {f : Str} {pos : Pos} (he : PE X e ta) (hb : attributeBase e f X.env (eval e X.env) = eval e X.env) : PE X (.Attribute e f pos) (tFld K ta f) := by subst eK; exact pe_fld he hb
theorem pe_bm0K (eK : X.K = K) {o : Expr} {to : TE} {name : Str} {apos cpos : Pos} {T id : String} {r : V → List V → Hp → VK → Prop} (pa : PlainAttrs T) (slot : Slot T name id) (hty : typeOf (.builtin id) = pure (.type "method_descriptor")) (hm : MtR X id r) (ho : PE X o to)
    (hbase : attributeBase o name X.env (eval o X.env) = eval o X.env) (hline : (apos.endLine == cpos.line) = true) : PE X (.Call (.Attribute o name apos) [] [] cpos) (tBM0 K T r to) := by subst eK; exact pe_bm0 pa slot hty hm ho hbase hline
theorem pe_bmK (eK : X.K = K) {o e : Expr} {es : List Expr} {to : TE} {t : TA} {name : Str} {apos cpos : Pos} {T id : String} {r : V → List V → Hp → VK → Prop} (pa : PlainAttrs T) (slot : Slot T name id) (hty : typeOf (.builtin id) = pure (.type "method_descriptor")) (hm : MtR X id r) (ho : PE X o to) (ha : PA X (e :: es) t)
    (hbase : attributeBase o name X.env (eval o X.env) = eval o X.env)
    (hfew : ((backTo cpos (starEach (e :: es) X.env)).all (fun x => !x.1) && (backToKw cpos (keywordEach [] X.env)).all (fun x => x.1.isSome)
      && decide ((e :: es).length + ([] : List Keyword).length + (if ([] : List Keyword).isEmpty then 0 else 1) < 30)) = true)
    (hline : (apos.endLine == cpos.line) = true) (hs : starEach (e :: es) X.env = (false, eval e X.env) :: starEach es X.env) (hplain : (backTo cpos (starEach es X.env)).any (·.1) = false) :
    PE X (.Call (.Attribute o name apos) (e :: es) [] cpos) (tBM K T r to t) := by subst eK; exact pe_bm pa slot hty hm ho ha hbase hfew hline hs hplain
end
/-- two ways to one rest -/
theorem via {P R : Hp → Prop} {G : Prop} (main : (∀ H', P H' → R H') → G) (rest : ∀ H', P H' → R H') : G := main rest
/-! ### slices of lists -/
theorem cut_take (l : List V) (j : Nat) : cutV l none (some (j : Int)) = l.take j := by
  unfold cutV
  rw [HT.sIx_nat]
  show (l.drop 0).take (min j l.length - 0) = _
  rw [List.drop_zero, Nat.sub_zero]
  by_cases hj : j ≤ l.length
  · rw [Nat.min_eq_left hj]
  · rw [Nat.min_eq_right (by omega), List.take_of_length_le (Nat.le_refl _), List.take_of_length_le (by omega)]
theorem cut_nat (l : List V) (i j : Nat) : cutV l (some (i : Int)) (some (j : Int)) = (l.take j).drop i := by
  unfold cutV
  rw [HT.sIx_nat, HT.sIx_nat, List.drop_take]
  by_cases hi : i ≤ l.length
  · rw [Nat.min_eq_left hi]
    by_cases hj : j ≤ l.length
    · rw [Nat.min_eq_left hj]
    · rw [Nat.min_eq_right (by omega), List.take_of_length_le (by rw [List.length_drop]; omega), List.take_of_length_le (by rw [List.length_drop]; omega)]
  · rw [List.drop_eq_nil_of_le (by omega : l.length ≤ min i l.length), List.drop_eq_nil_of_le (by omega : l.length ≤ i)]
    simp
theorem cut_drop (l : List V) (i : Nat) : cutV l (some (i : Int)) none = l.drop i := by
  unfold cutV
  rw [HT.sIx_nat]
  show (l.drop (min i l.length)).take (l.length - min i l.length) = _
  by_cases hi : i ≤ l.length
  · rw [Nat.min_eq_left hi, List.take_of_length_le (by rw [List.length_drop]; omega)]
  · rw [List.drop_eq_nil_of_le (by omega : l.length ≤ min i l.length), List.drop_eq_nil_of_le (by omega : l.length ≤ i)]
    simp
end Tw

set_option maxHeartbeats 4000000
namespace Tw
open PySem PySem.Spec PyProof.Rows L2 LamX
/-! ### drawn numbers -/
abbrev pA : Int := 340282366920938463463374607431768211507
abbrev pB : Int := 340282366920938463463374607431768211297
abbrev pC : Int := 18446744073709551557
def dr1 (c k : Int) : Int := (c * 6364136223846793005 + (k + 1) * 1442695040888963407) % pA
def dr2 (c k : Int) : Int := dr1 c k * dr1 c k % pB
def dr (c k : Int) : Int := (dr2 c k % pC + 1) * (dr2 c k / pC + 1) * dr2 c k % pA
theorem dr1_rng (c k : Int) : 0 ≤ dr1 c k ∧ dr1 c k < pA := ⟨Int.emod_nonneg _ (by decide), Int.emod_lt_of_pos _ (by decide)⟩
theorem dr2_rng (c k : Int) : 0 ≤ dr2 c k ∧ dr2 c k < pB := ⟨Int.emod_nonneg _ (by decide), Int.emod_lt_of_pos _ (by decide)⟩
theorem dr_rng (c k : Int) : 0 ≤ dr c k ∧ dr c k < pA := ⟨Int.emod_nonneg _ (by decide), Int.emod_lt_of_pos _ (by decide)⟩
theorem dr1_abs (c k : Int) : (dr1 c k).natAbs < 2 ^ 129 := by have := dr1_rng c k; simp only [pA] at this; omega
theorem dr2_abs (c k : Int) : (dr2 c k).natAbs < 2 ^ 129 := by have := dr2_rng c k; simp only [pB] at this; omega
theorem dr2_a (c k : Int) : (dr2 c k % pC + 1).natAbs < 2 ^ 65 := by
  have h := Int.emod_nonneg (dr2 c k) (show pC ≠ 0 by decide)
  have h2 := Int.emod_lt_of_pos (dr2 c k) (show 0 < pC by decide)
  simp only [pC] at h h2 ⊢
  omega
theorem dr2_b (c k : Int) : (dr2 c k / pC + 1).natAbs < 2 ^ 129 := by
  have := dr2_rng c k
  have h : 0 ≤ dr2 c k / pC := Int.ediv_nonneg this.1 (by decide)
  have h2 : dr2 c k / pC ≤ dr2 c k := Int.ediv_le_self _ this.1
  simp only [pB] at this
  omega
/-- the cell that a turn looks at -/
def cellV (ns : List Int) (k : Nat) : Int := if ns = [] then (k : Int) * 7919 else ns.getD (k % ns.length) 0 + ((k / ns.length : Nat) : Int) * 104729
def mosts : List Int := [0, 1, 2, 7, 8, 255, 256, 10 ^ 9, 2 ^ 40 - 1]
theorem mosts_le (j : Nat) : 0 ≤ mosts.getD j 0 ∧ mosts.getD j 0 < 1099511627776 := by
  by_cases h : j < 9
  · have : ∀ i, i < 9 → 0 ≤ mosts.getD i 0 ∧ mosts.getD i 0 < 1099511627776 := by decide +kernel
    exact this j h
  · rw [List.getD_eq_getElem?_getD, List.getElem?_eq_none (show mosts.length ≤ j from Nat.le_of_not_lt h)]
    decide
end Tw

set_option maxHeartbeats 4000000
namespace Tw
open PySem PySem.Spec PyProof.Rows L2 LamX
/-! ### a text so many times -/
def rRepS : R2 := fun x y H Q => ∃ z k, x = .str z ∧ y = .int k ∧ MulOk z k ∧ Q (.str (Txt.mul z k)) H
theorem op_repS {X : Cx} : OpR X (binaryOp .Mult) rRepS := by
  intro pins s σ H x y v u Q I rx ry h
  obtain ⟨z, k, rfl, rfl, hok, q⟩ := h
  obtain ⟨t, rfl⟩ := rx
  obtain ⟨t', rfl⟩ := ry
  exact SB.mul hok fun t' tk => ⟨.str (Txt.mul z k), H, I.tok _, ⟨_, rfl⟩, q⟩
theorem fold_reps : ∀ (n : Nat) (c : Nat) (a : List Nat), (List.replicate n (#[c] : Array Nat)).foldl (· ++ ·) a.toArray = (a ++ List.replicate n c).toArray
  | 0, c, a => by simp
  | n + 1, c, a => by
    rw [List.replicate_succ, List.foldl_cons]
    have e : a.toArray ++ (#[c] : Array Nat) = (a ++ [c]).toArray := by simp
    rw [e, fold_reps n c, List.append_assoc]
    rfl
theorem mul_S (c : Nat) (k : Int) : Txt.mul (S [c]) k = S (List.replicate k.toNat c) := by
  unfold Txt.mul
  by_cases h : k < 1
  · rw [if_pos h, show k.toNat = 0 by omega]
    rfl
  · rw [if_neg h]
    by_cases h1 : k = 1
    · subst h1
      rfl
    · have hf : (k == 1 || (S [c]).length == 0) = false := by
        rw [Bool.or_eq_false_iff]
        exact ⟨by simpa using h1, rfl⟩
      rw [hf]
      show (⟨_⟩ : Str) = S _
      have := fold_reps k.toNat c []
      unfold S
      rw [List.nil_append] at this
      rw [← this]
theorem mulOk_S {c : Nat} {k : Int} (h1 : -1000000 ≤ k) (h2 : k ≤ 1000000) : MulOk (S [c]) k := by
  refine ⟨?_, fun h3 _ => ?_, fun h3 _ => ?_⟩
  · rw [Bool.or_eq_false_iff]
    exact ⟨decide_eq_false (by omega), decide_eq_false (by omega)⟩
  · have h5 : (1 : Int) ≤ (2 ^ 63 - 1) / k := by
      refine (Int.le_ediv_iff_mul_le (by omega)).mpr ?_
      omega
    show ¬ ((1 : Int) > _)
    omega
  · show decide (1 * k.toNat > sizeLine) = false
    refine decide_eq_false ?_
    have : sizeLine = 16777216 := by decide
    omega
theorem fold_repsA : ∀ (n : Nat) (c a : List Nat), (List.replicate n (c.toArray : Array Nat)).foldl (· ++ ·) a.toArray = (a ++ (List.replicate n c).flatten).toArray
  | 0, c, a => by simp
  | n + 1, c, a => by
    rw [List.replicate_succ, List.foldl_cons]
    have e : a.toArray ++ c.toArray = (a ++ c).toArray := by simp
    rw [e, fold_repsA n c, List.append_assoc]
    rfl
theorem mul_sb (l : List Bool) (k : Nat) (h2 : 2 ≤ k) (hl : l ≠ []) : Txt.mul (sb l) (k : Int) = sb (List.replicate k l).flatten := by
  unfold Txt.mul
  rw [if_neg (by omega)]
  have hlen : (sb l).length ≠ 0 := by
    rw [sb_len]
    exact fun z => hl (List.eq_nil_of_length_eq_zero z)
  have hf : ((k : Int) == 1 || (sb l).length == 0) = false := by
    rw [Bool.or_eq_false_iff]
    refine ⟨?_, by simpa using hlen⟩
    rw [beq_eq_false_iff_ne]
    omega
  rw [hf]
  show (⟨_⟩ : Str) = sb _
  have h3 := fold_repsA k (l.map bc) []
  unfold sb S
  rw [List.nil_append] at h3
  rw [List.map_flatten, List.map_replicate, ← h3]
  rfl
theorem mulOk_sb {l : List Bool} {k : Nat} (h1 : l.length ≤ 1000) (h2 : k ≤ 10000) : MulOk (sb l) (k : Int) := by
  refine ⟨?_, fun h3 _ => ?_, fun h3 _ => ?_⟩
  · rw [Bool.or_eq_false_iff]
    exact ⟨decide_eq_false (by omega), decide_eq_false (by omega)⟩
  · have h5 : (1000 : Int) ≤ (2 ^ 63 - 1) / (k : Int) := by
      refine (Int.le_ediv_iff_mul_le (by omega)).mpr ?_
      omega
    rw [sb_len]
    omega
  · show decide ((sb l).length * ((k : Int)).toNat > sizeLine) = false
    refine decide_eq_false ?_
    rw [sb_len, Int.toNat_natCast]
    have : sizeLine = 16777216 := by decide
    have := Nat.mul_le_mul h1 h2
    omega
theorem cutS_take (l : List Nat) (j : Nat) : cutS (S l) none (some (j : Int)) = S (l.take j) := by
  unfold cutS
  rw [HT.sIx_nat, S_len]
  show (⟨_⟩ : Str) = ⟨_⟩
  congr 2
  show (l.drop 0).take (min j l.length - 0) = _
  rw [List.drop_zero, Nat.sub_zero]
  by_cases hj : j ≤ l.length
  · rw [Nat.min_eq_left hj]
  · rw [Nat.min_eq_right (by omega), List.take_of_length_le (Nat.le_refl _), List.take_of_length_le (by omega)]
end Tw

set_option maxHeartbeats 4000000
namespace Tw
open PySem PySem.Spec PyProof.Rows L2 LamX
/-! ### enumerate(text) -/
/-- the text's signs, each in a new pair with its place -/
def Ites (x : Str) : It :=
  ⟨fun i _ => i < x.cps.size, fun i H v H' => ∃ T c, v = .ref T ∧ H T = none ∧ H' = upd H T (.tup [.int (i : Nat), .str ⟨#[c]⟩]) ∧ x.cps[i]? = some c, fun i _ => i = x.cps.size⟩
theorem draws_text {P : Program} {w : World} {A : Around} (hh : A.handled = none) (it : Addr) (x : Str) (t : Tok) : Draws P w A it [it] x.cps.size (fun i v => ∃ c u, x.cps[i]? = some c ∧ v = .str ⟨#[c]⟩ u) (fun i h => h.IsStrIter it (strIterType x) x t i) := by
  unfold strIterType
  cases x.cps.all (· < 128)
  · exact Draws.strWide hh it x t
  · exact Draws.strAscii hh it x t
theorem turn_enumS {P : Program} {w : World} {K : PySem.W.Frag} {elts : List Expr} {kk : Nat} {tpos : Pos} (x : Str) (t : Tok) (e it : Addr) :
    Turn P w K (.Tuple elts kk tpos) (Ites x) [e, it] e (fun i h => (∃ old, IsEnum h e it ((i : Nat) : Int) old) ∧ h.IsStrIter it (strIterType x) x t i ∧ e ≠ it) where
  mem := by simp
  obj := fun i h st b hb => by
    obtain ⟨⟨old, he⟩, ⟨o, ho, hc, hd⟩, _⟩ := st
    have e' : b = e ∨ b = it := by simpa using hb
    rcases e' with z | z
    · rw [z]; exact ⟨_, he, fun v q => nomatch q⟩
    · rw [z]; exact ⟨o, ho, fun v q => by rw [hd] at q; cases q⟩
  keep := fun i h h' st k => let ⟨⟨old, he⟩, ⟨o, ho, r⟩, hne⟩ := st; ⟨⟨old, k e (by simp) _ he⟩, ⟨o, k it (by simp) o ho, r⟩, hne⟩
  item := by
    intro X hP hw hK hc i pins s σ H E I hf st hg
    subst hP hw hK
    obtain ⟨⟨old, he⟩, hit, hne⟩ := st
    have hel : e < s.heap.objs.size := Heap.lt_size he
    have hil : it < s.heap.objs.size := by obtain ⟨_, q, _⟩ := hit; exact Heap.lt_size q
    have D := draws_text (P := X.prog) (w := X.w) (A := X.A.in1) (I.ok.hd hc) it x t
    refine wpAny_pyNext_enum_itemD D he hit hg hne (by simpa using hne) fun u h' tk hu ho hit' hT hsz hk => ?_
    obtain ⟨c, tu, hcx, rfl⟩ := hu
    refine ⟨_, rfl, wpAny_letOwnedTupleGo_enum (s := { s with heap := h', toks := tk + 1 }) ho fun h'' he' sb => ?_⟩
    have hT2 : h''.get? s.heap.objs.size = some { cls := .type "tuple", data := .seq #[.int i tk, .str ⟨#[c]⟩ tu] } := (sb.2 _ (Nat.ne_of_gt hel)).trans hT
    have new : ObjOk X.prog X.w (upd H s.heap.objs.size (.tup [.int (i : Nat), .str ⟨#[c]⟩])) h'' s.heap.objs.size (.tup [.int (i : Nat), .str ⟨#[c]⟩]) :=
      ⟨by show 2 ≤ sizeLine; decide, [.int i tk, .str ⟨#[c]⟩ tu], .cons ⟨_, rfl⟩ (.cons ⟨_, rfl⟩ .nil), ⟨_, hT2, rfl, _, rfl⟩⟩
    have I1 : Inv X pins σ (upd H s.heap.objs.size (.tup [.int (i : Nat), .str ⟨#[c]⟩])) { s with heap := h'', toks := tk + 1 } :=
      I.turnedNew (ch := [e, it]) (fun b ob hb q => (sb.2 b (fun z => hb (by simp [z]))).trans (hk b ob (fun z => hb (by simp [z])) (fun z => hb (by simp [z])) q)) hf (Nat.le_refl _) new
    refine ⟨.ref s.heap.objs.size, _, I1, rfl, ⟨_, c, rfl, I.hok.fresh (Nat.le_refl _), rfl, hcx⟩, ⟨⟨.str ⟨#[c]⟩ tu, ?_⟩, ?_, hne⟩, fun b hb => ?_⟩
    · have e1 : ((i + 1 : Nat) : Int) = (i : Int) + 1 := by omega
      rw [e1]; exact he'
    · obtain ⟨o, q, r⟩ := hit'
      exact ⟨o, (sb.2 it (Ne.symm hne)).trans q, r⟩
    · have hb' : b < s.heap.objs.size := by
        have e' : b = e ∨ b = it := by simpa using hb
        rcases e' with z | z
        · rw [z]; exact hel
        · rw [z]; exact hil
      rw [upd_ne (Nat.ne_of_lt hb')]
      exact (hf b hb).1
  done := by
    intro X hP hw hK hc i pins s σ H E I hf st hg
    subst hP hw hK
    obtain ⟨⟨old, he⟩, hit, hne⟩ := st
    obtain ⟨f0, f1, f2, f3, f4, f5⟩ := hf it (by simp)
    have hg : i = x.cps.size := hg
    subst hg
    have D := draws_text (P := X.prog) (w := X.w) (A := X.A.in1) (I.ok.hd hc) it x t
    exact wpAny_pyNext_enum_endD D he hit fun h' eb => ⟨rfl, I.turned (t' := s.toks) (fun b o hb q => eb b o hb q) f0 f1 f3 f4 f5⟩
  self := fun A i s Q E st h => let ⟨⟨_, he⟩, _⟩ := st; wpAny_pyIter_enum he h
def iEnumS (ta : TA) : TI := fun σ H R => ta σ H fun vs H1 => ∃ x, vs = [.str x] ∧ R (Ites x) H1
theorem pi_enumSK {X : Cx} {K : PySem.W.Frag} (eK : X.K = K) {e : Expr} {ta : TA} {p pos tpos : Pos} {elts : List Expr} {kk : Nat} (hg : Gl X "enumerate") (hm : X.mg "enumerate" = none) (ha : PA X [e] ta) (hs : starEach [e] X.env = [(false, eval e X.env)]) :
    PI X (.Tuple elts kk tpos) (.Call (.Name "enumerate" p) [e] [] pos) (iEnumS ta) := by
  refine ⟨fun pins s σ H R I h => ?_⟩
  refine Call_ (ld_blt I hg hm boot_enumerate (PyProof.Rows.callWith_type1 (thn (ha.run pos pins s σ H _ I h) fun us s1 ⟨vs, H1, I1, r1, q1⟩ => ?_) hs rfl))
  obtain ⟨x, ex, q⟩ := q1
  subst ex
  cases r1 with
  | cons r rr =>
    cases rr
    obtain ⟨t, rfl⟩ := r
    refine call_enumerate_str fun h' he hit hsz hk => wpAny_pyIter_enum he ?_
    have I2 : Inv X pins σ H1 { s1 with heap := h' } := I1.kept (t' := s1.toks) hk
    refine ⟨s1.heap.objs.size + 1, [s1.heap.objs.size + 1, s1.heap.objs.size], _, _, H1, rfl, I2, turn_enumS x t (s1.heap.objs.size + 1) s1.heap.objs.size, ⟨⟨.none, he⟩, hit, Nat.succ_ne_self _⟩, fun b hb => ?_, q⟩
    have e' : b = s1.heap.objs.size + 1 ∨ b = s1.heap.objs.size := by simpa using hb
    have hle : s1.heap.objs.size ≤ b := by
      rcases e' with z | z
      · rw [z]; exact Nat.le_add_right _ _
      · rw [z]; exact Nat.le_refl _
    exact I1.fpOk hle (I1.hok.fresh hle)
theorem w_enumS {l : List Nat} : Walk (Ites (S l)) l.length (fun _ => True) (fun i H x H' => ∃ (T : Addr) (c : Nat), x = .ref T ∧ H T = none ∧ H' = upd H T (.tup [.int (i : Nat), .str (S [c])]) ∧ l[i]? = some c) := by
  have e : (S l).cps.size = l.length := S_len l
  refine ⟨fun i _ hi _ => by show i < (S l).cps.size; omega, fun _ _ => e.symm, fun i H v H' _ _ y => ?_⟩
  obtain ⟨T, c, h1, h2, h3, h4⟩ := y
  exact ⟨T, c, h1, h2, h3, by simpa [S] using h4⟩
/-! ### comprehensions whose items are new objects -/
section
variable {lo : Prop} {T : List (Addr × Str)} {J : It} {n : Nat} {G : Hp → Prop} {y : Nat → V → Prop} {te : TE} {j : Nat} {σ : L2.St} {H1 : Hp} {D : Addr} {Qd : Hp → Prop}
theorem lcV (P : Nat → List V → Hp → Prop) (w : Walk J n G (Yy y)) (hD : H1 D = none) (hn : n ≤ 1000000) (hG : ∀ H', Xg lo T H1 H' → G H') (h0 : P 0 [] (upd H1 D (.lst [])))
    (he : ∀ i x H' vs, i < n → y i x → Xg lo T H1 H' → P i vs H' → H' D = some (.lst vs) → ∀ Q : VK, (∀ v H4, Xg lo T H' H4 → P (i + 1) (vs ++ [v]) (upd H4 D (.lst (vs ++ [v]))) → Q v H4) → te ((wipe σ [j]).set j (some x)) H' Q)
    (hd : ∀ H' vs, Xg lo T H1 H' → P n vs H' → vs.length = n → H' D = some (.lst vs) → Qd H') :
    ∃ W : Nat → Nat → Hp → Prop, (∃ m, W 0 m (upd H1 D (.lst []))) ∧ ∀ i m H, W i m H →
      (J.stop i H ∧ Qd H) ∨ (J.go i H ∧ ∃ Nx : Hp → Prop, (∀ H', Nx H' → ∃ m', m' < m ∧ W (i + 1) m' H') ∧ ∀ x H', J.yld i H x H' → gName j x (wipe σ [j]) H' fun σ2 H2 => wipe σ2 [j] = wipe σ [j] ∧ tYes σ2 H2 fun b H3 =>
        if b = true then te σ2 H3 fun y H4 => ∃ acc, H4 D = some (.lst acc) ∧ acc.length < sizeLine ∧ Nx (upd H4 D (.lst (acc ++ [y]))) else Nx H3) := by
  refine lc_it w (fun i H => Xg lo T H1 H ∧ ∃ vs : List V, P i vs H ∧ vs.length = i ∧ H D = some (.lst vs)) ⟨Xg.new hD, [], h0, rfl, upd_same ..⟩ (fun i H _ p => hG H p.1) (fun i x H H' hi p hy => ?_) fun H p => by
    obtain ⟨x1, vs, h1, h2, h3⟩ := p
    exact hd H vs x1 h1 h2 h3
  obtain ⟨eH, hy⟩ := hy
  subst eH
  obtain ⟨x1, vs, h1, h2, h3⟩ := p
  refine ⟨wipe1 σ j _, ?_⟩
  unfold tYes
  refine iteT ?_
  refine he i x _ vs hi hy x1 h1 h3 _ fun v H5 x5 p5 => ?_
  have e5 := x5.lst h3
  refine ⟨_, e5, ?_, (x1.trans x5).mut (.of hD) e5, vs ++ [v], p5, by rw [List.length_append, h2]; rfl, upd_same ..⟩
  rw [h2]
  exact Nat.lt_of_lt_of_le hi (Nat.le_trans hn (by decide))
end
end Tw

set_option maxHeartbeats 4000000
namespace Tw
open PySem PySem.Spec PyProof.Rows L2 LamX
/-! ### trees as nested lists; what is no list -/
inductive Ob where
  | no
  | li (cs : List Ob)
/-- the value is no list -/
inductive NoL (H : Hp) : V → Prop where
  | non : NoL H .non
  | int (i : Int) : NoL H (.int i)
  | str (z : Str) : NoL H (.str z)
  | tup {a : Addr} {xs : List V} (h : H a = some (.tup xs)) : NoL H (.ref a)
  | dK {a : Addr} {kvs : List (L2.Key × V)} (h : H a = some (.dK kvs)) : NoL H (.ref a)
mutual
inductive ObAt (K : PySem.W.Frag) (H : Hp) : V → Ob → Prop where
  | no {v : V} : NoL H v → ObAt K H v .no
  | li {a : Addr} {vs : List V} {cs : List Ob} : H a = some (.lst vs) → ObsAt K H vs cs → ObAt K H (.ref a) (.li cs)
inductive ObsAt (K : PySem.W.Frag) (H : Hp) : List V → List Ob → Prop where
  | nil : ObsAt K H [] []
  | cons {v : V} {vs : List V} {c : Ob} {cs : List Ob} : ObAt K H v c → ObsAt K H vs cs → ObsAt K H (v :: vs) (c :: cs)
end
section
variable {lo : Prop} {T : List (Addr × Str)} {K : PySem.W.Frag} {H H' : Hp}
theorem NoL.xt {v : V} (h : NoL H v) (x : Xg lo T H H') : NoL H' v := by
  cases h with
  | non => exact .non
  | int i => exact .int i
  | str z => exact .str z
  | tup h => exact .tup (x.fix h (fun _ _ _ z => by cases z) fun ps z => by cases z)
  | dK h => exact .dK (x.fix h (fun _ _ _ z => by cases z) fun ps z => by cases z)
mutual
theorem Xg.ob (x : Xg lo T H H') : ∀ (o : Ob) (v : V), ObAt K H v o → ObAt K H' v o
  | .no, _, h => by
    cases h with
    | no h => exact .no (h.xt x)
  | .li cs, _, h => by
    cases h with
    | li h hs => exact .li (x.lst h) (Xg.obs x cs _ hs)
theorem Xg.obs (x : Xg lo T H H') : ∀ (cs : List Ob) (vs : List V), ObsAt K H vs cs → ObsAt K H' vs cs
  | [], _, h => by cases h; exact .nil
  | c :: cs, _, h => by
    cases h with
    | cons h1 h2 => exact .cons (Xg.ob x c _ h1) (Xg.obs x cs _ h2)
end
theorem ObsAt.len : ∀ {vs : List V} {cs : List Ob}, ObsAt K H vs cs → vs.length = cs.length
  | _, [], h => by cases h; rfl
  | _, c :: cs, h => by
    cases h with
    | cons h1 h2 => exact congrArg Nat.succ h2.len
theorem ObsAt.get : ∀ {vs : List V} {cs : List Ob} {i : Nat} {v : V}, ObsAt K H vs cs → vs[i]? = some v → ∃ c, cs[i]? = some c ∧ ObAt K H v c
  | _, [], _, _, h, e => by cases h; cases e
  | _, c :: cs, 0, v, h, e => by
    cases h with
    | cons h1 h2 =>
      cases e
      exact ⟨c, rfl, h1⟩
  | _, c :: cs, i + 1, v, h, e => by
    cases h with
    | cons h1 h2 =>
      obtain ⟨c', e', h'⟩ := ObsAt.get (i := i) h2 (by simpa using e)
      exact ⟨c', by simpa using e', h'⟩
end
mutual
def ht : Ob → Nat
  | .no => 0
  | .li cs => htL cs + 1
def htL : List Ob → Nat
  | [] => 0
  | c :: cs => max (ht c) (htL cs)
end
theorem ht_mem {c : Ob} : ∀ {cs : List Ob}, c ∈ cs → ht c ≤ htL cs
  | [], h => by cases h
  | d :: cs, h => by
    show ht c ≤ max (ht d) (htL cs)
    rcases List.mem_cons.mp h with rfl | h
    · omega
    · have := ht_mem h
      omega
theorem flat_one : ∀ s : List Bool, (s.map fun b => [b]).flatten = s
  | [] => rfl
  | b :: r => by
    rw [List.map_cons, List.flatten_cons, flat_one r]
    rfl
/-! ### the bits of a tree -/
mutual
def sgn : Ob → Nat → Option (List Bool)
  | .no, _ => none
  | .li cs, d => if 200 < d then none else (sgnL cs (d + 1) [true]).map (· ++ [false])
def sgnL : List Ob → Nat → List Bool → Option (List Bool)
  | [], _, acc => some acc
  | c :: cs, d, acc => (sgn c d).bind fun s => if 2000 < (acc ++ s).length then none else sgnL cs d (acc ++ s)
end
theorem sgnL_len : ∀ {cs : List Ob} {d : Nat} {acc s : List Bool}, acc.length ≤ 2000 → sgnL cs d acc = some s → s.length ≤ 2000
  | [], d, acc, s, h, e => by
    have e : some acc = some s := e
    rw [← Option.some.inj e]
    exact h
  | c :: cs, d, acc, s, h, e => by
    have e : ((sgn c d).bind fun s => if 2000 < (acc ++ s).length then none else sgnL cs d (acc ++ s)) = some s := e
    cases hc : sgn c d with
    | none =>
      rw [hc] at e
      cases e
    | some r =>
      rw [hc] at e
      have e : (if 2000 < (acc ++ r).length then none else sgnL cs d (acc ++ r)) = some s := e
      by_cases hl : 2000 < (acc ++ r).length
      · rw [if_pos hl] at e
        cases e
      · rw [if_neg hl] at e
        exact sgnL_len (by omega) e
theorem sgn_len {o : Ob} {d : Nat} {s : List Bool} (h : sgn o d = some s) : s.length ≤ 2001 := by
  cases o with
  | no => cases h
  | li cs =>
    have e : (if 200 < d then none else (sgnL cs (d + 1) [true]).map (· ++ [false])) = some s := h
    by_cases hd : 200 < d
    · rw [if_pos hd] at e
      cases e
    · rw [if_neg hd] at e
      obtain ⟨r, h1, h2⟩ := Option.map_eq_some_iff.mp e
      have := sgnL_len (by decide) h1
      rw [← h2, List.length_append]
      show _ + 1 ≤ 2001
      omega
mutual
/-- a tree's bits, without a bound -/
def btT : Ob → List Bool
  | .no => []
  | .li cs => true :: (btL cs ++ [false])
def btL : List Ob → List Bool
  | [] => []
  | c :: cs => btT c ++ btL cs
end
mutual
/-- trees alone -/
def isT : Ob → Bool
  | .no => false
  | .li cs => isTL cs
def isTL : List Ob → Bool
  | [] => true
  | c :: cs => isT c && isTL cs
end
mutual
theorem sgn_of : ∀ (o : Ob) (d : Nat), isT o = true → d + ht o ≤ 201 → (btT o).length ≤ 2000 → sgn o d = some (btT o)
  | .no, _, h, _, _ => by cases h
  | .li cs, d, h, h2, h3 => by
    have h2 : d + (htL cs + 1) ≤ 201 := h2
    have h3 : (true :: (btL cs ++ [false])).length ≤ 2000 := h3
    rw [List.length_cons, List.length_append] at h3
    show (if 200 < d then none else (sgnL cs (d + 1) [true]).map (· ++ [false])) = _
    rw [if_neg (by omega), sgnL_of cs (d + 1) [true] h (by omega) (by rw [List.length_append]; show 1 + _ ≤ 2000; omega)]
    rfl
theorem sgnL_of : ∀ (cs : List Ob) (d : Nat) (acc : List Bool), isTL cs = true → d + htL cs ≤ 201 → (acc ++ btL cs).length ≤ 2000 → sgnL cs d acc = some (acc ++ btL cs)
  | [], d, acc, _, _, _ => by
    show some acc = some (acc ++ [])
    rw [List.append_nil]
  | c :: cs, d, acc, h, h2, h3 => by
    have h : (isT c && isTL cs) = true := h
    rw [Bool.and_eq_true] at h
    have h2 : d + max (ht c) (htL cs) ≤ 201 := h2
    have h3 : (acc ++ (btT c ++ btL cs)).length ≤ 2000 := h3
    rw [List.length_append, List.length_append] at h3
    show (sgn c d).bind (fun s => if 2000 < (acc ++ s).length then none else sgnL cs d (acc ++ s)) = some (acc ++ (btT c ++ btL cs))
    rw [sgn_of c d h.1 (by omega) (by omega)]
    show (if 2000 < (acc ++ btT c).length then none else sgnL cs d (acc ++ btT c)) = _
    rw [if_neg (by rw [List.length_append]; omega), sgnL_of cs d (acc ++ btT c) h.2 (by omega) (by rw [List.length_append, List.length_append]; omega), List.append_assoc]
end
theorem btL_eq : ∀ cs : List Ob, btL cs = (cs.map btT).flatten
  | [] => rfl
  | c :: cs => by
    rw [List.map_cons, List.flatten_cons, ← btL_eq cs]
    rfl
theorem btL_app (a b : List Ob) : btL (a ++ b) = btL a ++ btL b := by rw [btL_eq, btL_eq, btL_eq, List.map_append, List.flatten_append]
theorem btL_mem {c : Ob} {cs : List Ob} (h : c ∈ cs) : (btT c).length ≤ (btL cs).length := by
  induction cs with
  | nil => cases h
  | cons d cs ih =>
    show _ ≤ (btT d ++ btL cs).length
    rw [List.length_append]
    rcases List.mem_cons.mp h with rfl | h
    · omega
    · have := ih h
      omega
theorem isTL_mem {c : Ob} {cs : List Ob} (h : isTL cs = true) (hc : c ∈ cs) : isT c = true := by
  induction cs with
  | nil => cases hc
  | cons d cs ih =>
    have h : (isT d && isTL cs) = true := h
    rw [Bool.and_eq_true] at h
    rcases List.mem_cons.mp hc with rfl | hc
    · exact h.1
    · exact ih h.2 hc
theorem btL_count (cs : List Ob) (h : isTL cs = true) : 2 * cs.length ≤ (btL cs).length := by
  induction cs with
  | nil => exact Nat.le_refl _
  | cons d cs ih =>
    have h : (isT d && isTL cs) = true := h
    rw [Bool.and_eq_true] at h
    have := ih h.2
    show _ ≤ (btT d ++ btL cs).length
    rw [List.length_append, List.length_cons]
    cases d with
    | no => cases h.1
    | li ds =>
      have : (btT (.li ds)).length = (btL ds).length + 2 := by
        show (true :: (btL ds ++ [false])).length = _
        rw [List.length_cons, List.length_append]
        rfl
      omega
/-! ### ups and downs -/
def dp (l : List Bool) : Int := l.foldl (fun d b => d + 2 * (b.toNat : Int) - 1) 0
theorem dp_nil : dp [] = 0 := rfl
theorem dp_snoc (l : List Bool) (b : Bool) : dp (l ++ [b]) = dp l + 2 * (b.toNat : Int) - 1 := by
  unfold dp
  rw [List.foldl_append]
  rfl
structure okT (l : List Bool) : Prop where
  ne : l ≠ []
  mid : ∀ i, 0 < i → i < l.length → 1 ≤ dp (l.take i)
  fin : dp l = 0
  top : ∀ i, i ≤ l.length → dp (l.take i) ≤ 200
/-! ### trees none of whose lists stands at given addresses -/
mutual
inductive ObAv (H : Hp) (A : List Addr) : V → Ob → Prop where
  | li {a : Addr} {vs : List V} {cs : List Ob} : a ∉ A → H a = some (.lst vs) → ObsAv H A vs cs → ObAv H A (.ref a) (.li cs)
inductive ObsAv (H : Hp) (A : List Addr) : List V → List Ob → Prop where
  | nil : ObsAv H A [] []
  | cons {v : V} {vs : List V} {c : Ob} {cs : List Ob} : ObAv H A v c → ObsAv H A vs cs → ObsAv H A (v :: vs) (c :: cs)
end
section
variable {H H' : Hp} {A B : List Addr} {K : PySem.W.Frag}
mutual
/-- carried over: what stands at other addresses stays; fewer addresses to avoid, or such as held no list -/
theorem ObAv.mono (hk : ∀ a xs, a ∉ A → H a = some (.lst xs) → H' a = some (.lst xs) ∧ a ∉ B) : ∀ (o : Ob) (v : V), ObAv H A v o → ObAv H' B v o
  | .no, _, h => by cases h
  | .li cs, _, h => by
    cases h with
    | li h1 h2 h3 => exact .li (hk _ _ h1 h2).2 (hk _ _ h1 h2).1 (ObsAv.mono hk cs _ h3)
theorem ObsAv.mono (hk : ∀ a xs, a ∉ A → H a = some (.lst xs) → H' a = some (.lst xs) ∧ a ∉ B) : ∀ (cs : List Ob) (vs : List V), ObsAv H A vs cs → ObsAv H' B vs cs
  | [], _, h => by cases h; exact .nil
  | c :: cs, _, h => by
    cases h with
    | cons h1 h2 => exact .cons (ObAv.mono hk c _ h1) (ObsAv.mono hk cs _ h2)
end
mutual
theorem ObAv.at : ∀ (o : Ob) (v : V), ObAv H A v o → ObAt K H v o ∧ isT o = true
  | .no, _, h => by cases h
  | .li cs, _, h => by
    cases h with
    | li h1 h2 h3 => exact ⟨.li h2 (ObsAv.at cs _ h3).1, (ObsAv.at cs _ h3).2⟩
theorem ObsAv.at : ∀ (cs : List Ob) (vs : List V), ObsAv H A vs cs → ObsAt K H vs cs ∧ isTL cs = true
  | [], _, h => by cases h; exact ⟨.nil, rfl⟩
  | c :: cs, _, h => by
    cases h with
    | cons h1 h2 =>
      refine ⟨.cons (ObAv.at c _ h1).1 (ObsAv.at cs _ h2).1, ?_⟩
      show (isT c && isTL cs) = true
      have a1 := (ObAv.at c _ h1).2
      have a2 := (ObsAv.at cs _ h2).2
      rw [a1, a2]
      rfl
end
theorem ObsAv.snoc : ∀ {vs : List V} {cs : List Ob} {v : V} {c : Ob}, ObsAv H A vs cs → ObAv H A v c → ObsAv H A (vs ++ [v]) (cs ++ [c])
  | _, [], _, _, h, hc => by cases h; exact .cons hc .nil
  | _, d :: cs, _, _, h, hc => by
    cases h with
    | cons h1 h2 => exact .cons h1 (h2.snoc hc)
end
/-! ### the open rows of a tree that is read -/
structure StkAt (H : Hp) (R : Addr) (as : List Addr) (fs : List (List Ob)) : Prop where
  rows : H R = some (.lst (as.map V.ref))
  nd : (R :: as).Nodup
  len : as.length = fs.length
  row : ∀ (j : Nat) (a : Addr) (f : List Ob), as[j]? = some a → fs[j]? = some f → ∃ vs, H a = some (.lst vs) ∧ ObsAv H (R :: as) vs f
theorem snoc_at {α : Type} {l : List α} {x y : α} {j : Nat} (h : (l ++ [x])[j]? = some y) : l[j]? = some y ∨ (j = l.length ∧ y = x) := by
  rcases Nat.lt_trichotomy j l.length with h1 | h1 | h1
  · rw [List.getElem?_append_left h1] at h
    exact .inl h
  · subst h1
    rw [List.getElem?_append_right (Nat.le_refl _), Nat.sub_self] at h
    exact .inr ⟨rfl, (Option.some.inj h).symm⟩
  · rw [List.getElem?_eq_none (by rw [List.length_append]; show _ + 1 ≤ _; omega)] at h
    cases h
section
variable {H : Hp} {R p : Addr} {as : List Addr} {fs : List (List Ob)}
theorem StkAt.push (s : StkAt H R as fs) (hp : H p = none) : StkAt (upd (upd H p (.lst [])) R (.lst (as.map V.ref ++ [.ref p]))) R (as ++ [p]) (fs ++ [[]]) := by
  have hpR : p ≠ R := fun z => by rw [z, s.rows] at hp; cases hp
  have hpa : p ∉ as := fun h => by
    obtain ⟨j, hj, e⟩ := List.mem_iff_getElem.mp h
    obtain ⟨vs, h1, _⟩ := s.row j p (fs[j]'(by rw [← s.len]; exact hj)) (by rw [List.getElem?_eq_getElem hj, e]) (List.getElem?_eq_getElem _)
    rw [hp] at h1
    cases h1
  have hRa : R ∉ as := (List.nodup_cons.mp s.nd).1
  refine ⟨by rw [upd_same, List.map_append]; rfl, ?_, by rw [List.length_append, List.length_append, s.len]; rfl, fun j a f ha hf => ?_⟩
  · rw [List.nodup_cons]
    refine ⟨fun h => ?_, ?_⟩
    · rcases List.mem_append.mp h with h | h
      · exact hRa h
      · exact hpR (List.mem_singleton.mp h).symm
    · rw [List.nodup_append]
      refine ⟨(List.nodup_cons.mp s.nd).2, by simp, fun x hx y hy => ?_⟩
      have : y = p := by simpa using hy
      subst this
      exact fun e => hpa (e ▸ hx)
  · have hk : ∀ a' xs, a' ∉ R :: as → H a' = some (.lst xs) → (upd (upd H p (.lst [])) R (.lst (as.map V.ref ++ [.ref p]))) a' = some (.lst xs) ∧ a' ∉ R :: (as ++ [p]) := fun a' xs h1 h2 => by
      have n1 : a' ≠ R := fun z => h1 (z ▸ List.mem_cons_self)
      have n2 : a' ≠ p := fun z => by rw [z, hp] at h2; cases h2
      refine ⟨by rw [upd_ne n1, upd_ne n2]; exact h2, fun h => ?_⟩
      rcases List.mem_cons.mp h with h | h
      · exact n1 h
      · rcases List.mem_append.mp h with h | h
        · exact h1 (List.mem_cons_of_mem _ h)
        · exact n2 (by simpa using h)
    rcases snoc_at ha with ha | ⟨e, rfl⟩
    · have hj : j < fs.length := by rw [← s.len]; exact (List.getElem?_eq_some_iff.mp ha).1
      rw [List.getElem?_append_left hj] at hf
      obtain ⟨vs, h1, h2⟩ := s.row j a f ha hf
      have n1 : a ≠ R := fun z => hRa (z ▸ List.mem_of_getElem? ha)
      have n2 : a ≠ p := fun z => hpa (z ▸ List.mem_of_getElem? ha)
      exact ⟨vs, by rw [upd_ne n1, upd_ne n2]; exact h1, ObsAv.mono hk f vs h2⟩
    · rw [e, s.len, List.getElem?_append_right (Nat.le_refl _), Nat.sub_self] at hf
      have : f = [] := (Option.some.inj hf).symm
      subst this
      exact ⟨[], by rw [upd_ne hpR, upd_same], .nil⟩
theorem StkAt.pop {b a : Addr} {g f : List Ob} (s : StkAt H R ((as ++ [b]) ++ [a]) ((fs ++ [g]) ++ [f])) (hl : as.length = fs.length) : ∃ vs, H b = some (.lst vs) ∧ b ≠ R ∧ StkAt (upd (upd H R (.lst ((as ++ [b]).map V.ref))) b (.lst (vs ++ [.ref a]))) R (as ++ [b]) (fs ++ [g ++ [.li f]]) := by
  have nd := List.nodup_cons.mp s.nd
  have hab : as ++ [b] ++ [a] = as ++ [b, a] := by rw [List.append_assoc]; rfl
  have hbm : b ∈ (as ++ [b]) ++ [a] := List.mem_append_left _ (List.mem_append_right _ List.mem_cons_self)
  have ham : a ∈ (as ++ [b]) ++ [a] := List.mem_append_right _ List.mem_cons_self
  have hbR : b ≠ R := fun z => nd.1 (z ▸ hbm)
  have haR : a ≠ R := fun z => nd.1 (z ▸ ham)
  have nd2 := List.nodup_append.mp nd.2
  have haB : ∀ x ∈ as ++ [b], x ≠ a := fun x hx => nd2.2.2 x hx a List.mem_cons_self
  have nd3 := List.nodup_append.mp nd2.1
  have hbA : ∀ x ∈ as, x ≠ b := fun x hx => nd3.2.2 x hx b List.mem_cons_self
  have eb : ((as ++ [b]) ++ [a])[as.length]? = some b := by rw [hab, List.getElem?_append_right (Nat.le_refl _), Nat.sub_self]; rfl
  have eg : ((fs ++ [g]) ++ [f])[as.length]? = some g := by rw [hl, List.append_assoc, List.getElem?_append_right (Nat.le_refl _), Nat.sub_self]; rfl
  have ea : ((as ++ [b]) ++ [a])[as.length + 1]? = some a := by rw [hab, List.getElem?_append_right (by omega), Nat.add_sub_cancel_left]; rfl
  have ef : ((fs ++ [g]) ++ [f])[as.length + 1]? = some f := by rw [hl, List.append_assoc, List.getElem?_append_right (by omega), Nat.add_sub_cancel_left]; rfl
  obtain ⟨vb, hb1, hb2⟩ := s.row _ _ _ eb eg
  obtain ⟨va, ha1, ha2⟩ := s.row _ _ _ ea ef
  refine ⟨vb, hb1, hbR, by rw [upd_ne (Ne.symm hbR), upd_same], List.nodup_cons.mpr ⟨fun h => nd.1 (List.mem_append_left _ h), nd2.1⟩, by rw [List.length_append, List.length_append, hl]; rfl, fun j c k hc hk => ?_⟩
  have hkeep : ∀ a' xs, a' ∉ R :: ((as ++ [b]) ++ [a]) → H a' = some (.lst xs) → (upd (upd H R (.lst ((as ++ [b]).map V.ref))) b (.lst (vb ++ [.ref a]))) a' = some (.lst xs) ∧ a' ∉ R :: (as ++ [b]) := fun a' xs h1 h2 => by
    have n1 : a' ≠ R := fun z => h1 (z ▸ List.mem_cons_self)
    have n2 : a' ≠ b := fun z => by
      rw [z] at h1
      exact h1 (List.mem_cons_of_mem _ hbm)
    refine ⟨by rw [upd_ne n2, upd_ne n1]; exact h2, fun h => ?_⟩
    rcases List.mem_cons.mp h with h | h
    · exact n1 h
    · exact h1 (List.mem_cons_of_mem _ (List.mem_append_left _ h))
  rcases snoc_at hc with hc | ⟨e, rfl⟩
  · have hj : j < as.length := (List.getElem?_eq_some_iff.mp hc).1
    rw [List.getElem?_append_left (by rw [← hl]; exact hj)] at hk
    obtain ⟨vs, h1, h2⟩ := s.row j c k (by rw [List.append_assoc, List.getElem?_append_left hj]; exact hc) (by rw [List.append_assoc, List.getElem?_append_left (by rw [← hl]; exact hj)]; exact hk)
    have hcm := List.mem_of_getElem? hc
    have n1 : c ≠ R := fun z => nd.1 (z ▸ List.mem_append_left _ (List.mem_append_left _ hcm))
    have n2 : c ≠ b := hbA c hcm
    exact ⟨vs, by rw [upd_ne n2, upd_ne n1]; exact h1, ObsAv.mono hkeep k vs h2⟩
  · rw [e, hl, List.getElem?_append_right (Nat.le_refl _), Nat.sub_self] at hk
    have : k = g ++ [.li f] := (Option.some.inj hk).symm
    subst this
    refine ⟨_, upd_same .., (ObsAv.mono hkeep g vb hb2).snoc (.li ?_ ?_ (ObsAv.mono hkeep f va ha2))⟩
    · intro h
      rcases List.mem_cons.mp h with h | h
      · exact haR h
      · exact haB a h rfl
    · rw [upd_ne (haB c (List.mem_append_right _ List.mem_cons_self)).symm, upd_ne haR]
      exact ha1
end
def rawF (fs : List (List Ob)) : List Bool := (fs.map fun f => true :: btL f).flatten
theorem rawF_app (a b : List (List Ob)) : rawF (a ++ b) = rawF a ++ rawF b := by
  unfold rawF
  rw [List.map_append, List.flatten_append]
theorem rawF_one (f : List Ob) : rawF [f] = true :: btL f := by
  unfold rawF
  simp
theorem rawF_push (fs : List (List Ob)) : rawF (fs ++ [[]]) = rawF fs ++ [true] := by rw [rawF_app, rawF_one]; rfl
theorem rawF_pop (fs : List (List Ob)) (g f : List Ob) : rawF (fs ++ [g ++ [.li f]]) = rawF ((fs ++ [g]) ++ [f]) ++ [false] := by
  rw [rawF_app, rawF_app, rawF_app, rawF_one, rawF_one, rawF_one, btL_app]
  show rawF fs ++ (true :: (btL g ++ ((true :: (btL f ++ [false])) ++ []))) = _
  simp
def chainO : Nat → Ob
  | 0 => .li []
  | n + 1 => .li [chainO n]
def wideO (n : Nat) : Ob := .li (List.replicate n (.li []))
theorem obs_snoc {K : PySem.W.Frag} {H : Hp} : ∀ {vs : List V} {cs : List Ob} {v : V} {c : Ob}, ObsAt K H vs cs → ObAt K H v c → ObsAt K H (vs ++ [v]) (cs ++ [c])
  | _, [], _, _, h, hc => by cases h; exact .cons hc .nil
  | _, d :: cs, _, _, h, hc => by
    cases h with
    | cons h1 h2 => exact .cons h1 (obs_snoc h2 hc)
theorem obs_wide {K : PySem.W.Frag} {H : Hp} : ∀ {vs : List V}, (∀ v ∈ vs, ∃ a, v = .ref a ∧ H a = some (.lst [])) → ObsAt K H vs (List.replicate vs.length (.li []))
  | [], _ => .nil
  | v :: vs, h => by
    obtain ⟨a, rfl, e⟩ := h v List.mem_cons_self
    exact .cons (.li e .nil) (obs_wide fun u hu => h u (List.mem_cons_of_mem _ hu))
end Tw

set_option maxHeartbeats 4000000
namespace Tw
open PySem PySem.Spec PyProof.Rows L2 LamX
/-! ### trees with their lists' addresses -/
inductive AT where
  | nd (a : Addr) (cs : List AT)
def AT.root : AT → Addr
  | .nd a _ => a
mutual
def addrs : AT → List Addr
  | .nd a cs => a :: addrsL cs
def addrsL : List AT → List Addr
  | [] => []
  | c :: cs => addrs c ++ addrsL cs
end
mutual
def AtH (H : Hp) : AT → Prop
  | .nd a cs => H a = some (.lst (cs.map fun c => V.ref c.root)) ∧ AtHL H cs
def AtHL (H : Hp) : List AT → Prop
  | [] => True
  | c :: cs => AtH H c ∧ AtHL H cs
end
mutual
def toOb : AT → Ob
  | .nd _ cs => .li (toObL cs)
def toObL : List AT → List Ob
  | [] => []
  | c :: cs => toOb c :: toObL cs
end
mutual
def ins (b : Addr) (i : Nat) (f : Addr) : AT → AT
  | .nd a cs => if a = b then .nd a (cs.take i ++ [.nd f []] ++ cs.drop i) else .nd a (insL b i f cs)
def insL (b : Addr) (i : Nat) (f : Addr) : List AT → List AT
  | [] => []
  | c :: cs => ins b i f c :: insL b i f cs
end
section
variable {H H' : Hp} {K : PySem.W.Frag} {b f : Addr} {i : Nat}
theorem ins_root (t : AT) : (ins b i f t).root = t.root := by
  cases t with
  | nd a cs =>
    show (if a = b then AT.nd a (cs.take i ++ [.nd f []] ++ cs.drop i) else .nd a (insL b i f cs)).root = a
    split <;> rfl
mutual
theorem AtH.ob : ∀ (t : AT), AtH H t → ObAt K H (.ref t.root) (toOb t)
  | .nd a cs, h => .li h.1 (AtHL.obs cs h.2)
theorem AtHL.obs : ∀ (cs : List AT), AtHL H cs → ObsAt K H (cs.map fun c => V.ref c.root) (toObL cs)
  | [], _ => .nil
  | c :: cs, h => .cons (AtH.ob c h.1) (AtHL.obs cs h.2)
end
mutual
theorem AtH.frame : ∀ (t : AT), AtH H t → (∀ a ∈ addrs t, H' a = H a) → AtH H' t
  | .nd a cs, h, k => ⟨by rw [k a List.mem_cons_self]; exact h.1, AtHL.frame cs h.2 fun x hx => k x (List.mem_cons_of_mem _ hx)⟩
theorem AtHL.frame : ∀ (cs : List AT), AtHL H cs → (∀ a ∈ addrsL cs, H' a = H a) → AtHL H' cs
  | [], _, _ => trivial
  | c :: cs, h, k => ⟨AtH.frame c h.1 fun x hx => k x (List.mem_append_left _ hx), AtHL.frame cs h.2 fun x hx => k x (List.mem_append_right _ hx)⟩
end
end
section
variable {lo : Prop} {T : List (Addr × Str)} {H H' : Hp}
mutual
theorem Xg.att (x : Xg lo T H H') : ∀ (t : AT), AtH H t → AtH H' t
  | .nd a cs, h => ⟨x.lst h.1, Xg.attL x cs h.2⟩
theorem Xg.attL (x : Xg lo T H H') : ∀ (cs : List AT), AtHL H cs → AtHL H' cs
  | [], _ => trivial
  | c :: cs, h => ⟨Xg.att x c h.1, Xg.attL x cs h.2⟩
end
end
mutual
theorem isT_toOb : ∀ t : AT, isT (toOb t) = true ∧ (btT (toOb t)).length = 2 * (addrs t).length ∧ ht (toOb t) ≤ (addrs t).length
  | .nd a cs => by
    obtain ⟨h1, h2, h3⟩ := isTL_toOb cs
    refine ⟨h1, ?_, ?_⟩
    · show (true :: (btL (toObL cs) ++ [false])).length = 2 * ((addrsL cs).length + 1)
      rw [List.length_cons, List.length_append, h2]
      show 2 * (addrsL cs).length + 1 + 1 = _
      omega
    · show htL (toObL cs) + 1 ≤ (addrsL cs).length + 1
      omega
theorem isTL_toOb : ∀ cs : List AT, isTL (toObL cs) = true ∧ (btL (toObL cs)).length = 2 * (addrsL cs).length ∧ htL (toObL cs) ≤ (addrsL cs).length
  | [] => ⟨rfl, rfl, Nat.le_refl _⟩
  | c :: cs => by
    obtain ⟨h1, h2, h3⟩ := isT_toOb c
    obtain ⟨g1, g2, g3⟩ := isTL_toOb cs
    refine ⟨?_, ?_, ?_⟩
    · show (isT (toOb c) && isTL (toObL cs)) = true
      rw [h1, g1]
      rfl
    · show (btT (toOb c) ++ btL (toObL cs)).length = 2 * (addrs c ++ addrsL cs).length
      rw [List.length_append, List.length_append, h2, g2]
      omega
    · show max (ht (toOb c)) (htL (toObL cs)) ≤ (addrs c ++ addrsL cs).length
      rw [List.length_append]
      omega
end
section
variable {H H' : Hp} {b f : Addr} {i : Nat}
mutual
theorem ins_not : ∀ (t : AT), b ∉ addrs t → ins b i f t = t
  | .nd a cs, h => by
    have h1 : a ≠ b := fun z => h (z ▸ List.mem_cons_self)
    show (if a = b then AT.nd a (cs.take i ++ [.nd f []] ++ cs.drop i) else .nd a (insL b i f cs)) = _
    rw [if_neg h1, insL_not cs fun z => h (List.mem_cons_of_mem _ z)]
theorem insL_not : ∀ (cs : List AT), b ∉ addrsL cs → insL b i f cs = cs
  | [], _ => rfl
  | c :: cs, h => by
    show ins b i f c :: insL b i f cs = c :: cs
    rw [ins_not c fun z => h (List.mem_append_left _ z), insL_not cs fun z => h (List.mem_append_right _ z)]
end
theorem addrsL_app : ∀ (x y : List AT), addrsL (x ++ y) = addrsL x ++ addrsL y
  | [], _ => rfl
  | c :: x, y => by
    show addrs c ++ addrsL (x ++ y) = (addrs c ++ addrsL x) ++ addrsL y
    rw [addrsL_app x y, List.append_assoc]
mutual
theorem ins_perm : ∀ (t : AT), (addrs t).Nodup → b ∈ addrs t → (addrs (ins b i f t)).Perm (f :: addrs t)
  | .nd a cs, hn, hb => by
    have hn : (a :: addrsL cs).Nodup := hn
    by_cases h : a = b
    · have e : ins b i f (.nd a cs) = .nd a (cs.take i ++ [.nd f []] ++ cs.drop i) := if_pos h
      rw [e]
      show (a :: addrsL (cs.take i ++ [.nd f []] ++ cs.drop i)).Perm (f :: a :: addrsL cs)
      rw [addrsL_app, addrsL_app]
      have e2 : addrsL cs = addrsL (cs.take i) ++ addrsL (cs.drop i) := by rw [← addrsL_app, List.take_append_drop]
      rw [e2]
      show (a :: ((addrsL (cs.take i) ++ [f]) ++ addrsL (cs.drop i))).Perm _
      refine List.Perm.trans (List.Perm.cons a ?_) (List.Perm.swap f a _)
      rw [List.append_assoc]
      exact List.perm_middle
    · have e : ins b i f (.nd a cs) = .nd a (insL b i f cs) := if_neg h
      rw [e]
      have hb2 : b ∈ addrsL cs := (List.mem_cons.mp hb).resolve_left fun z => h z.symm
      exact List.Perm.trans (List.Perm.cons a (insL_perm cs (List.nodup_cons.mp hn).2 hb2)) (List.Perm.swap f a _)
theorem insL_perm : ∀ (cs : List AT), (addrsL cs).Nodup → b ∈ addrsL cs → (addrsL (insL b i f cs)).Perm (f :: addrsL cs)
  | [], _, hb => by cases hb
  | c :: cs, hn, hb => by
    have hn : (addrs c ++ addrsL cs).Nodup := hn
    obtain ⟨n1, n2, n3⟩ := List.nodup_append.mp hn
    show (addrs (ins b i f c) ++ addrsL (insL b i f cs)).Perm (f :: (addrs c ++ addrsL cs))
    rcases List.mem_append.mp hb with h | h
    · rw [insL_not cs fun z => n3 b h b z rfl]
      exact List.Perm.append_right _ (ins_perm c n1 h)
    · rw [ins_not c fun z => n3 b z b h rfl]
      exact List.Perm.trans (List.Perm.append_left _ (insL_perm cs n2 h)) List.perm_middle
end
theorem atL_app : ∀ (x y : List AT), AtHL H x → AtHL H y → AtHL H (x ++ y)
  | [], _, _, h => h
  | c :: x, y, h1, h2 => ⟨h1.1, atL_app x y h1.2 h2⟩
theorem atL_split : ∀ (x y : List AT), AtHL H (x ++ y) → AtHL H x ∧ AtHL H y
  | [], _, h => ⟨trivial, h⟩
  | c :: x, y, h => ⟨⟨h.1, (atL_split x y h.2).1⟩, (atL_split x y h.2).2⟩
theorem insL_roots : ∀ cs : List AT, (insL b i f cs).map (fun c => V.ref c.root) = cs.map fun c => V.ref c.root
  | [] => rfl
  | c :: cs => by
    show V.ref (ins b i f c).root :: (insL b i f cs).map (fun c => V.ref c.root) = _
    rw [ins_root, insL_roots cs]
    rfl
mutual
theorem ins_at (xs : List V) (hb : H b = some (.lst xs)) (hb2 : H' b = some (.lst (xs.take i ++ [V.ref f] ++ xs.drop i))) (hf : H' f = some (.lst [])) : ∀ (t : AT), AtH H t → (addrs t).Nodup → (∀ a, a ≠ b → a ∈ addrs t → H' a = H a) → b ∈ addrs t → AtH H' (ins b i f t)
  | .nd a cs, h, hn, hk, hm => by
    have hn : (a :: addrsL cs).Nodup := hn
    have hn2 := List.nodup_cons.mp hn
    by_cases e : a = b
    · subst e
      have e1 : ins a i f (.nd a cs) = .nd a (cs.take i ++ [.nd f []] ++ cs.drop i) := if_pos rfl
      rw [e1]
      have hx : xs = cs.map fun c => V.ref c.root := by
        have := h.1
        rw [hb] at this
        injection this with this
        injection this
      have hcs : AtHL H' cs := AtHL.frame cs h.2 fun x hx => hk x (fun z => hn2.1 (z ▸ hx)) (List.mem_cons_of_mem _ hx)
      rw [← List.take_append_drop i cs] at hcs
      obtain ⟨c1, c2⟩ := atL_split _ _ hcs
      refine ⟨?_, atL_app _ _ (atL_app _ _ c1 ⟨⟨hf, trivial⟩, trivial⟩) c2⟩
      rw [hb2, hx, List.map_append, List.map_append, List.map_take, List.map_drop]
      rfl
    · have e1 : ins b i f (.nd a cs) = .nd a (insL b i f cs) := if_neg e
      rw [e1]
      have hm2 : b ∈ addrsL cs := (List.mem_cons.mp hm).resolve_left fun z => e z.symm
      refine ⟨?_, insL_at xs hb hb2 hf cs h.2 hn2.2 (fun x hx hx2 => hk x hx (List.mem_cons_of_mem _ hx2)) hm2⟩
      rw [insL_roots, hk a e List.mem_cons_self]
      exact h.1
theorem insL_at (xs : List V) (hb : H b = some (.lst xs)) (hb2 : H' b = some (.lst (xs.take i ++ [V.ref f] ++ xs.drop i))) (hf : H' f = some (.lst [])) : ∀ (cs : List AT), AtHL H cs → (addrsL cs).Nodup → (∀ a, a ≠ b → a ∈ addrsL cs → H' a = H a) → b ∈ addrsL cs → AtHL H' (insL b i f cs)
  | [], _, _, _, hm => by cases hm
  | c :: cs, h, hn, hk, hm => by
    have hn : (addrs c ++ addrsL cs).Nodup := hn
    obtain ⟨n1, n2, n3⟩ := List.nodup_append.mp hn
    rcases List.mem_append.mp hm with hm | hm
    · refine ⟨ins_at xs hb hb2 hf c h.1 n1 (fun x hx hx2 => hk x hx (List.mem_append_left _ hx2)) hm, ?_⟩
      rw [insL_not cs fun z => n3 b hm b z rfl]
      exact AtHL.frame cs h.2 fun x hx => hk x (fun z => n3 b hm b (z ▸ hx) rfl) (List.mem_append_right _ hx)
    · refine ⟨?_, insL_at xs hb hb2 hf cs h.2 n2 (fun x hx hx2 => hk x hx (List.mem_append_right _ hx2)) hm⟩
      rw [ins_not c fun z => n3 b z b hm rfl]
      exact AtH.frame c h.1 fun x hx => hk x (fun z => n3 b (z ▸ hx) b hm rfl) (List.mem_append_left _ hx)
end
end
section
variable {H : Hp} {b : Addr}
mutual
/-- each address of a tree holds a list, no longer than the tree -/
theorem at_of_mem : ∀ (t : AT), AtH H t → b ∈ addrs t → ∃ xs : List V, H b = some (.lst xs) ∧ xs.length ≤ (addrs t).length
  | .nd a cs, h, hm => by
    rcases List.mem_cons.mp hm with rfl | hm
    · refine ⟨_, h.1, ?_⟩
      rw [List.length_map]
      show cs.length ≤ (addrsL cs).length + 1
      have : ∀ cs : List AT, cs.length ≤ (addrsL cs).length := fun cs => by
        induction cs with
        | nil => exact Nat.le_refl _
        | cons c cs ih =>
          show cs.length + 1 ≤ (addrs c ++ addrsL cs).length
          rw [List.length_append]
          cases c with
          | nd a' cs' =>
            show _ ≤ (addrsL cs').length + 1 + _
            omega
      have := this cs
      omega
    · obtain ⟨xs, h1, h2⟩ := atL_of_mem cs h.2 hm
      exact ⟨xs, h1, by show _ ≤ (addrsL cs).length + 1; omega⟩
theorem atL_of_mem : ∀ (cs : List AT), AtHL H cs → b ∈ addrsL cs → ∃ xs : List V, H b = some (.lst xs) ∧ xs.length ≤ (addrsL cs).length
  | [], _, hm => by cases hm
  | c :: cs, h, hm => by
    rcases List.mem_append.mp hm with hm | hm
    · obtain ⟨xs, h1, h2⟩ := at_of_mem c h.1 hm
      exact ⟨xs, h1, by show _ ≤ (addrs c ++ addrsL cs).length; rw [List.length_append]; omega⟩
    · obtain ⟨xs, h1, h2⟩ := atL_of_mem cs h.2 hm
      exact ⟨xs, h1, by show _ ≤ (addrs c ++ addrsL cs).length; rw [List.length_append]; omega⟩
end
end
end Tw

set_option maxHeartbeats 4000000
namespace Tw
open PySem PySem.Spec PyProof.Rows L2 LamX
/-! ### ups and downs of a tree's bits -/
theorem dp_from : ∀ (l : List Bool) (a : Int), l.foldl (fun d b => d + 2 * (b.toNat : Int) - 1) a = a + dp l
  | [], a => by unfold dp; simp
  | b :: l, a => by
    unfold dp
    rw [List.foldl_cons, List.foldl_cons, dp_from l, dp_from l (0 + 2 * (b.toNat : Int) - 1)]
    omega
theorem dp_app (a b : List Bool) : dp (a ++ b) = dp a + dp b := by
  unfold dp
  rw [List.foldl_append, dp_from]
  rfl
theorem dp_cons (b : Bool) (l : List Bool) : dp (b :: l) = 2 * (b.toNat : Int) - 1 + dp l := by
  unfold dp
  rw [List.foldl_cons, dp_from]
  unfold dp
  omega
theorem dp_up (l : List Bool) : dp (true :: l) = 1 + dp l := by rw [dp_cons]; rfl
theorem dp_dn (l : List Bool) : dp (false :: l) = dp l - 1 := by
  rw [dp_cons]
  show 2 * ((0 : Nat) : Int) - 1 + dp l = _
  omega
theorem take_app_dp (a b : List Bool) (i : Nat) : dp ((a ++ b).take i) = if i ≤ a.length then dp (a.take i) else dp a + dp (b.take (i - a.length)) := by
  split
  · rw [List.take_append_of_le_length (by assumption)]
  · rw [List.take_append, List.take_of_length_le (by omega), dp_app]
structure UD (l : List Bool) (h : Nat) : Prop where
  z : dp l = 0
  lo : ∀ i, 0 ≤ dp (l.take i)
  hi : ∀ i, dp (l.take i) ≤ h
  at_ : ∃ i, dp (l.take i) = h
mutual
theorem ud_T : ∀ o : Ob, isT o = true → UD (btT o) (ht o) ∧ ∀ i, 0 < i → i < (btT o).length → 1 ≤ dp ((btT o).take i)
  | .no, h => by cases h
  | .li cs, h => by
    obtain ⟨z, lo, hi, at_⟩ := ud_L cs h
    have step : ∀ i, dp ((true :: (btL cs ++ [false])).take (i + 1)) = if i ≤ (btL cs).length then 1 + dp ((btL cs).take i) else 0 := fun i => by
      rw [List.take_succ_cons, dp_up, take_app_dp]
      split
      · rfl
      · rw [z]
        obtain ⟨j, hj⟩ : ∃ j, i - (btL cs).length = j + 1 := ⟨i - (btL cs).length - 1, by omega⟩
        rw [hj, List.take_succ_cons, List.take_nil, dp_dn]
        rfl
    refine ⟨⟨?_, fun i => ?_, fun i => ?_, ?_⟩, fun i h0 hl => ?_⟩
    · show dp (true :: (btL cs ++ [false])) = 0
      rw [dp_up, dp_app, z, dp_dn]
      rfl
    · show 0 ≤ dp ((true :: (btL cs ++ [false])).take i)
      cases i with
      | zero => exact Int.le_refl _
      | succ i =>
        rw [step]
        have := lo i
        split <;> omega
    · show dp ((true :: (btL cs ++ [false])).take i) ≤ ((htL cs + 1 : Nat) : Int)
      cases i with
      | zero =>
        show (0 : Int) ≤ _
        omega
      | succ i =>
        rw [step]
        have := hi i
        split <;> omega
    · obtain ⟨i, hi⟩ := at_
      by_cases hl : i ≤ (btL cs).length
      · refine ⟨i + 1, ?_⟩
        show dp ((true :: (btL cs ++ [false])).take (i + 1)) = ((htL cs + 1 : Nat) : Int)
        rw [step, if_pos hl, hi]
        omega
      · refine ⟨(btL cs).length + 1, ?_⟩
        show dp ((true :: (btL cs ++ [false])).take ((btL cs).length + 1)) = ((htL cs + 1 : Nat) : Int)
        rw [List.take_of_length_le (by omega)] at hi
        rw [step, if_pos (Nat.le_refl _), List.take_length, hi]
        omega
    · obtain ⟨i, rfl⟩ : ∃ j, i = j + 1 := ⟨i - 1, by omega⟩
      have hl : i + 1 < (true :: (btL cs ++ [false])).length := hl
      rw [List.length_cons, List.length_append] at hl
      have hl : i + 1 < (btL cs).length + 1 + 1 := hl
      show 1 ≤ dp ((true :: (btL cs ++ [false])).take (i + 1))
      rw [step, if_pos (by omega)]
      have := lo i
      omega
theorem ud_L : ∀ cs : List Ob, isTL cs = true → UD (btL cs) (htL cs)
  | [], _ => ⟨rfl, fun i => by show 0 ≤ dp (([] : List Bool).take i); rw [List.take_nil]; exact Int.le_refl _, fun i => by show dp (([] : List Bool).take i) ≤ 0; rw [List.take_nil]; exact Int.le_refl _, 0, rfl⟩
  | c :: cs, h => by
    have h : (isT c && isTL cs) = true := h
    rw [Bool.and_eq_true] at h
    obtain ⟨⟨z1, lo1, hi1, a1⟩, _⟩ := ud_T c h.1
    obtain ⟨z2, lo2, hi2, a2⟩ := ud_L cs h.2
    have e : btL (c :: cs) = btT c ++ btL cs := rfl
    have eh : htL (c :: cs) = max (ht c) (htL cs) := rfl
    rw [e, eh]
    refine ⟨by rw [dp_app, z1, z2]; rfl, fun i => ?_, fun i => ?_, ?_⟩
    · rw [take_app_dp, z1]
      have := lo1 i
      have := lo2 (i - (btT c).length)
      split <;> omega
    · rw [take_app_dp, z1]
      have := hi1 i
      have := hi2 (i - (btT c).length)
      split <;> omega
    · rcases Nat.le_total (ht c) (htL cs) with hh | hh
      · obtain ⟨i, hi⟩ := a2
        refine ⟨(btT c).length + i, ?_⟩
        rw [take_app_dp, z1]
        by_cases h0 : i = 0
        · subst h0
          rw [if_pos (by omega), Nat.add_zero, List.take_length, z1]
          have : dp ((btL cs).take 0) = 0 := rfl
          omega
        · rw [if_neg (by omega), Nat.add_sub_cancel_left, hi]
          omega
      · obtain ⟨i, hi⟩ := a1
        by_cases hl : i ≤ (btT c).length
        · refine ⟨i, ?_⟩
          rw [take_app_dp, if_pos hl, hi]
          omega
        · refine ⟨(btT c).length, ?_⟩
          rw [List.take_of_length_le (by omega)] at hi
          rw [take_app_dp, if_pos (Nat.le_refl _), List.take_length, hi]
          omega
end
theorem okT_bt {o : Ob} (h : isT o = true) (hh : ht o ≤ 200) : okT (btT o) := by
  obtain ⟨⟨z, lo, hi, a⟩, m⟩ := ud_T o h
  refine ⟨fun e => ?_, m, z, fun i _ => ?_⟩
  · cases o with
    | no => cases h
    | li cs => cases e
  · have := hi i
    omega
theorem ht_of {o : Ob} (h : isT o = true) (ok : okT (btT o)) : ht o ≤ 200 := by
  obtain ⟨⟨z, lo, hi, i, hi2⟩, m⟩ := ud_T o h
  by_cases hl : i ≤ (btT o).length
  · have := ok.top i hl
    omega
  · rw [List.take_of_length_le (by omega), z] at hi2
    omega
/-! ### a tree by its bits -/
mutual
theorem inj_T : ∀ (o o' : Ob) (r r' : List Bool), isT o = true → isT o' = true → btT o ++ r = btT o' ++ r' → o = o' ∧ r = r'
  | .no, _, _, _, h, _, _ => by cases h
  | .li cs, .no, _, _, _, h, _ => by cases h
  | .li cs, .li cs', r, r', h, h', e => by
    have e : true :: (btL cs ++ [false]) ++ r = true :: (btL cs' ++ [false]) ++ r' := e
    rw [List.cons_append, List.cons_append, List.append_assoc, List.append_assoc] at e
    obtain ⟨e1, e2⟩ := inj_L cs cs' r r' h h' (List.cons.inj e).2
    exact ⟨by rw [e1], e2⟩
theorem inj_L : ∀ (cs cs' : List Ob) (r r' : List Bool), isTL cs = true → isTL cs' = true → btL cs ++ ([false] ++ r) = btL cs' ++ ([false] ++ r') → cs = cs' ∧ r = r'
  | [], [], r, r', _, _, e => ⟨rfl, (List.cons.inj e).2⟩
  | [], c :: cs, r, r', _, h, e => by
    have h : (isT c && isTL cs) = true := h
    rw [Bool.and_eq_true] at h
    cases c with
    | no => cases h.1
    | li ds => exact absurd (List.cons.inj e).1 (by decide)
  | c :: cs, [], r, r', h, _, e => by
    have h : (isT c && isTL cs) = true := h
    rw [Bool.and_eq_true] at h
    cases c with
    | no => cases h.1
    | li ds => exact absurd (List.cons.inj e).1 (by decide)
  | c :: cs, c' :: cs', r, r', h, h', e => by
    have h : (isT c && isTL cs) = true := h
    have h' : (isT c' && isTL cs') = true := h'
    rw [Bool.and_eq_true] at h h'
    have e : (btT c ++ btL cs) ++ ([false] ++ r) = (btT c' ++ btL cs') ++ ([false] ++ r') := e
    rw [List.append_assoc, List.append_assoc] at e
    obtain ⟨e1, e2⟩ := inj_T c c' _ _ h.1 h'.1 e
    obtain ⟨e3, e4⟩ := inj_L cs cs' r r' h.2 h'.2 e2
    exact ⟨by rw [e1, e3], e4⟩
end
theorem bt_inj {o o' : Ob} (h : isT o = true) (h' : isT o' = true) (e : btT o = btT o') : o = o' := (inj_T o o' [] [] h h' (by rw [List.append_nil, List.append_nil]; exact e)).1
/-! ### trees compared -/
mutual
def dat : Ob → PyData
  | .no => .none
  | .li cs => .list (datL cs)
def datL : List Ob → List PyData
  | [] => []
  | c :: cs => dat c :: datL cs
end
section
variable {K : PySem.W.Frag} {H : Hp}
mutual
theorem dp_ob : ∀ (o : Ob) (v : V), isT o = true → ObAt K H v o → Dp K H v (dat o)
  | .no, _, h, _ => by cases h
  | .li cs, _, h, a => by
    cases a with
    | li e hs => exact .lst (SqL.of e) (dp_obs cs _ h hs)
theorem dp_obs : ∀ (cs : List Ob) (vs : List V), isTL cs = true → ObsAt K H vs cs → DpAll K H vs (datL cs)
  | [], _, _, a => by cases a; exact .nil
  | c :: cs, _, h, a => by
    have h : (isT c && isTL cs) = true := h
    rw [Bool.and_eq_true] at h
    cases a with
    | cons a1 a2 => exact .cons (dp_ob c _ h.1 a1) (dp_obs cs _ h.2 a2)
end
end
mutual
theorem sh_ob : ∀ (o : Ob) (n : Nat), isT o = true → ht o ≤ n → Sh n (dat o)
  | .no, _, h, _ => by cases h
  | .li cs, n, h, hh => by
    have hh : htL cs + 1 ≤ n := hh
    obtain ⟨n, rfl⟩ : ∃ k, n = k + 1 := ⟨n - 1, by omega⟩
    exact sh_lst (sh_obs cs n h (by omega))
theorem sh_obs : ∀ (cs : List Ob) (n : Nat), isTL cs = true → htL cs ≤ n → ∀ d ∈ datL cs, Sh n d
  | [], _, _, _ => fun d h => by cases h
  | c :: cs, n, h, hh => by
    have h : (isT c && isTL cs) = true := h
    rw [Bool.and_eq_true] at h
    have hh : max (ht c) (htL cs) ≤ n := hh
    intro d hd
    rcases List.mem_cons.mp hd with rfl | hd
    · exact sh_ob c n h.1 (by omega)
    · exact sh_obs cs n h.2 (by omega) d hd
end
/-! ### what is no tree -/
theorem sgn_no {d : Nat} : sgn .no d = none := rfl
theorem chain_T : ∀ n, isT (chainO n) = true ∧ ht (chainO n) = n + 1 ∧ btT (chainO n) = List.replicate (n + 1) true ++ List.replicate (n + 1) false
  | 0 => ⟨rfl, rfl, rfl⟩
  | n + 1 => by
    obtain ⟨h1, h2, h3⟩ := chain_T n
    refine ⟨?_, ?_, ?_⟩
    · show (isT (chainO n) && true) = true
      rw [h1]
      rfl
    · show max (ht (chainO n)) 0 + 1 = _
      omega
    · show true :: ((btT (chainO n) ++ []) ++ [false]) = _
      rw [h3, List.append_nil, List.append_assoc, ← List.replicate_succ', List.replicate_succ (n := n + 1)]
      rfl
theorem wide_T (n : Nat) : isT (wideO n) = true ∧ ht (wideO n) ≤ 2 ∧ btT (wideO n) = true :: ((List.replicate n [true, false]).flatten ++ [false]) := by
  have h : isTL (List.replicate n (.li [])) = true ∧ htL (List.replicate n (.li [])) ≤ 1 := by
    induction n with
    | zero => exact ⟨rfl, Nat.zero_le _⟩
    | succ n ih =>
      rw [List.replicate_succ]
      refine ⟨?_, ?_⟩
      · show (true && isTL (List.replicate n (.li []))) = true
        rw [ih.1]
        rfl
      · show max 1 (htL (List.replicate n (.li []))) ≤ 1
        omega
  refine ⟨h.1, Nat.succ_le_succ h.2, ?_⟩
  show true :: (btL (List.replicate n (.li [])) ++ [false]) = _
  rw [btL_eq, List.map_replicate]
  rfl
mutual
/-- too deep -/
theorem sgn_deep : ∀ (o : Ob) (d : Nat), isT o = true → 201 < d + ht o → sgn o d = none
  | .no, _, _, _ => rfl
  | .li cs, d, h, hh => by
    have hh : 201 < d + (htL cs + 1) := hh
    show (if 200 < d then none else (sgnL cs (d + 1) [true]).map (· ++ [false])) = none
    by_cases hd : 200 < d
    · rw [if_pos hd]
    · rw [if_neg hd, sgnL_deep cs (d + 1) [true] h (by omega) (by intro z; subst z; have : htL [] = 0 := rfl; omega)]
      rfl
theorem sgnL_deep : ∀ (cs : List Ob) (d : Nat) (acc : List Bool), isTL cs = true → 201 < d + htL cs → cs ≠ [] → sgnL cs d acc = none
  | [], _, _, _, _, h => absurd rfl h
  | c :: cs, d, acc, h, hh, _ => by
    have h : (isT c && isTL cs) = true := h
    rw [Bool.and_eq_true] at h
    have hh : 201 < d + max (ht c) (htL cs) := hh
    show ((sgn c d).bind fun s => if 2000 < (acc ++ s).length then none else sgnL cs d (acc ++ s)) = none
    rcases Nat.lt_or_ge 201 (d + ht c) with hc | hc
    · rw [sgn_deep c d h.1 hc]
      rfl
    · cases hs : sgn c d with
      | none => rfl
      | some s =>
        show (if 2000 < (acc ++ s).length then none else sgnL cs d (acc ++ s)) = none
        split
        · rfl
        · refine sgnL_deep cs d _ h.2 (by omega) fun z => ?_
          subst z
          have : htL [] = 0 := rfl
          have : 1 ≤ ht c := by
            cases c with
            | no => cases h.1
            | li ds => exact Nat.succ_le_succ (Nat.zero_le _)
          by_cases hd : 200 < d
          · cases c with
            | no => cases hs
            | li ds =>
              have hs : (if 200 < d then none else _) = some s := hs
              rw [if_pos hd] at hs
              cases hs
          · omega
end
mutual
theorem sgn_eq : ∀ (o : Ob) (d : Nat) (s : List Bool), sgn o d = some s → s = btT o
  | .no, _, _, h => by cases h
  | .li cs, d, s, h => by
    have h : (if 200 < d then none else (sgnL cs (d + 1) [true]).map (· ++ [false])) = some s := h
    by_cases hd : 200 < d
    · rw [if_pos hd] at h
      cases h
    · rw [if_neg hd] at h
      obtain ⟨r, h1, h2⟩ := Option.map_eq_some_iff.mp h
      rw [← h2, sgnL_eq cs _ _ _ h1]
      rfl
theorem sgnL_eq : ∀ (cs : List Ob) (d : Nat) (acc s : List Bool), sgnL cs d acc = some s → s = acc ++ btL cs
  | [], _, acc, s, h => by
    have h : some acc = some s := h
    rw [← Option.some.inj h]
    exact (List.append_nil _).symm
  | c :: cs, d, acc, s, h => by
    have h : ((sgn c d).bind fun s => if 2000 < (acc ++ s).length then none else sgnL cs d (acc ++ s)) = some s := h
    cases hs : sgn c d with
    | none =>
      rw [hs] at h
      cases h
    | some r =>
      rw [hs] at h
      have h : (if 2000 < (acc ++ r).length then none else sgnL cs d (acc ++ r)) = some s := h
      by_cases hl : 2000 < (acc ++ r).length
      · rw [if_pos hl] at h
        cases h
      · rw [if_neg hl] at h
        rw [sgnL_eq cs d _ _ h, sgn_eq c d r hs, List.append_assoc]
        rfl
end
theorem sgn_long {o : Ob} (h : 2000 < (btT o).length) : ∀ s, sgn o 1 = some s → 2000 < s.length := fun s e => by
  rw [sgn_eq o 1 s e]
  exact h
end Tw

set_option maxHeartbeats 4000000
namespace Tw
/-! ### trees by numbers -/
/-- in how many ways n bits go from so deep to nought, never below it -/
def wy : Nat → Nat → Nat
  | 0, 0 => 1
  | 0, _ + 1 => 0
  | n + 1, 0 => wy n 1
  | n + 1, d + 1 => wy n (d + 2) + wy n d
/-- those that begin with a step back -/
def dn (n : Nat) : Nat → Nat
  | 0 => 0
  | d + 1 => wy n d
theorem wy_step (n d : Nat) : wy (n + 1) d = dn n d + wy n (d + 1) := by
  cases d with
  | zero => exact (Nat.zero_add _).symm
  | succ d => exact Nat.add_comm _ _
theorem wy_far : ∀ (n d : Nat), n < d → wy n d = 0
  | 0, 0, h => absurd h (by omega)
  | 0, _ + 1, _ => rfl
  | _ + 1, 0, h => absurd h (by omega)
  | n + 1, d + 1, h => by
    show wy n (d + 2) + wy n d = 0
    rw [wy_far n (d + 2) (by omega), wy_far n d (by omega)]
/-- from so deep to nought, never below -/
def okP : List Bool → Nat → Bool
  | [], 0 => true
  | [], _ + 1 => false
  | true :: l, d => okP l (d + 1)
  | false :: _, 0 => false
  | false :: l, d + 1 => okP l d
def rk : List Bool → Nat → Nat
  | [], _ => 0
  | true :: l, d => dn l.length d + rk l (d + 1)
  | false :: l, d => rk l (d - 1)
def ur : Nat → Nat → Nat → List Bool
  | 0, _, _ => []
  | n + 1, d, k => if k < dn n d then false :: ur n (d - 1) k else true :: ur n (d + 1) (k - dn n d)
theorem ur_len : ∀ (n d k : Nat), (ur n d k).length = n
  | 0, _, _ => rfl
  | n + 1, d, k => by
    unfold ur
    split <;> rw [List.length_cons, ur_len n]
theorem ur_ok : ∀ (n d k : Nat), k < wy n d → okP (ur n d k) d = true
  | 0, 0, k, _ => rfl
  | 0, _ + 1, k, h => absurd h (Nat.not_lt_zero _)
  | n + 1, d, k, h => by
    rw [wy_step] at h
    unfold ur
    split
    · next h1 =>
      cases d with
      | zero => exact absurd h1 (Nat.not_lt_zero _)
      | succ d => exact ur_ok n d k h1
    · next h1 => exact ur_ok n (d + 1) _ (by omega)
theorem rk_ur : ∀ (n d k : Nat), k < wy n d → rk (ur n d k) d = k
  | 0, 0, k, h => by
    have : k = 0 := Nat.lt_one_iff.mp h
    subst this
    rfl
  | 0, _ + 1, k, h => absurd h (Nat.not_lt_zero _)
  | n + 1, d, k, h => by
    rw [wy_step] at h
    unfold ur
    split
    · next h1 =>
      cases d with
      | zero => exact absurd h1 (Nat.not_lt_zero _)
      | succ d => exact rk_ur n d k h1
    · next h1 =>
      show dn (ur n (d + 1) (k - dn n d)).length d + rk (ur n (d + 1) (k - dn n d)) (d + 1) = k
      rw [ur_len, rk_ur n (d + 1) _ (by omega)]
      omega
theorem rk_lt : ∀ (l : List Bool) (d : Nat), okP l d = true → rk l d < wy l.length d
  | [], 0, _ => Nat.zero_lt_one
  | [], _ + 1, h => by cases h
  | true :: l, d, h => by
    have ih := rk_lt l (d + 1) h
    show dn l.length d + rk l (d + 1) < wy (l.length + 1) d
    rw [wy_step]
    omega
  | false :: _, 0, h => by cases h
  | false :: l, d + 1, h => by
    have ih := rk_lt l d h
    show rk l d < wy (l.length + 1) (d + 1)
    rw [wy_step]
    show rk l d < wy l.length d + _
    omega
theorem ur_rk : ∀ (l : List Bool) (d : Nat), okP l d = true → ur l.length d (rk l d) = l
  | [], _, _ => rfl
  | true :: l, d, h => by
    have ih := ur_rk l (d + 1) h
    show ur (l.length + 1) d (dn l.length d + rk l (d + 1)) = true :: l
    unfold ur
    rw [if_neg (by omega), Nat.add_sub_cancel_left, ih]
  | false :: _, 0, h => by cases h
  | false :: l, d + 1, h => by
    have ih := ur_rk l d h
    have lt := rk_lt l d h
    show ur (l.length + 1) (d + 1) (rk l d) = false :: l
    unfold ur
    rw [if_pos (show rk l d < dn l.length (d + 1) from lt), Nat.add_sub_cancel, ih]
/-- by signs as by numbers -/
theorem rk_less : ∀ (l m : List Bool) (d : Nat), l.length = m.length → okP l d = true → okP m d = true → (l.map bc < m.map bc ↔ rk l d < rk m d)
  | [], [], d, _, _, _ => by simp [rk]
  | [], _ :: _, _, h, _, _ => by simp at h
  | _ :: _, [], _, h, _, _ => by simp at h
  | true :: l, true :: m, d, h, hl, hm => by
    have ih := rk_less l m (d + 1) (Nat.succ.inj h) hl hm
    have e : l.length = m.length := Nat.succ.inj h
    rw [List.map_cons, List.map_cons, List.cons_lt_cons_iff]
    show _ ↔ dn l.length d + rk l (d + 1) < dn m.length d + rk m (d + 1)
    rw [e, ih]
    omega
  | false :: l, false :: m, 0, h, hl, hm => by cases hl
  | false :: l, false :: m, d + 1, h, hl, hm => by
    have ih := rk_less l m d (Nat.succ.inj h) hl hm
    rw [List.map_cons, List.map_cons, List.cons_lt_cons_iff]
    show _ ↔ rk l d < rk m d
    rw [ih]
    omega
  | true :: l, false :: m, 0, h, hl, hm => by cases hm
  | true :: l, false :: m, d + 1, h, hl, hm => by
    have e : l.length = m.length := Nat.succ.inj h
    have lt := rk_lt m d hm
    rw [List.map_cons, List.map_cons, List.cons_lt_cons_iff]
    show (bc true < bc false ∨ _) ↔ dn l.length (d + 1) + rk l (d + 2) < rk m d
    have h1 : bc true = 49 := rfl
    have h0 : bc false = 48 := rfl
    rw [h1, h0, e]
    show _ ↔ wy m.length d + rk l (d + 2) < rk m d
    omega
  | false :: l, true :: m, 0, h, hl, hm => by cases hl
  | false :: l, true :: m, d + 1, h, hl, hm => by
    have e : l.length = m.length := Nat.succ.inj h
    have lt := rk_lt l d hl
    rw [List.map_cons, List.map_cons, List.cons_lt_cons_iff]
    show (bc false < bc true ∨ _) ↔ rk l d < dn m.length (d + 1) + rk m (d + 2)
    have h1 : bc true = 49 := rfl
    have h0 : bc false = 48 := rfl
    rw [h1, h0, ← e]
    show _ ↔ rk l d < wy l.length d + rk m (d + 2)
    omega
/-! ### reckoned by rows -/
def nxR (r : List Nat) : List Nat := (List.range (r.length + 1)).map fun d => r.getD (d + 1) 0 + (if d = 0 then 0 else r.getD (d - 1) 0)
def rowR : Nat → List Nat
  | 0 => [1]
  | n + 1 => nxR (rowR n)
theorem rowR_eq : ∀ n, rowR n = (List.range (n + 1)).map (wy n)
  | 0 => rfl
  | n + 1 => by
    show nxR (rowR n) = _
    rw [rowR_eq n]
    unfold nxR
    rw [List.length_map, List.length_range]
    refine List.map_congr_left fun d hd => ?_
    have g : ∀ i, ((List.range (n + 1)).map (wy n)).getD i 0 = wy n i := fun i => by
      rw [List.getD_eq_getElem?_getD, List.getElem?_map]
      by_cases h : i < n + 1
      · rw [List.getElem?_range h]
        rfl
      · rw [List.getElem?_eq_none (by rw [List.length_range]; omega), wy_far n i (by omega)]
        rfl
    rw [g]
    cases d with
    | zero => rfl
    | succ d => rw [if_neg (Nat.succ_ne_zero _), Nat.add_sub_cancel, g]; rfl
/-- how many trees, by a first child and the rest -/
def catL : Nat → List Nat
  | 0 => [0, 1]
  | n + 1 => catL n ++ [((List.range (n + 1)).map fun i => (catL n).getD (1 + i) 0 * (catL n).getD (n + 2 - (1 + i)) 0).sum]
def few (n : Nat) : Nat := wy (2 * n - 2) 0
theorem catL_len : ∀ n, (catL n).length = n + 2
  | 0 => rfl
  | n + 1 => by
    show (catL n ++ [_]).length = _
    rw [List.length_append, catL_len n]
    rfl
def rowsT (n : Nat) : List Nat := (List.range n).map fun i => (rowR (2 * i)).getD 0 0
theorem few_eq (n : Nat) : few n = (rowR (2 * n - 2)).getD 0 0 := by
  rw [rowR_eq, List.getD_eq_getElem?_getD, List.getElem?_map, List.getElem?_range (by omega)]
  rfl
theorem few40 : (catL 39).drop 1 = rowsT 40 := by decide +kernel
theorem few_cat {n : Nat} (h1 : 1 ≤ n) (h2 : n ≤ 40) : (catL 39).getD n 0 = few n := by
  rw [few_eq]
  have e := congrArg (fun l : List Nat => l.getD (n - 1) 0) few40
  have e1 : (catL 39).getD n 0 = ((catL 39).drop 1).getD (n - 1) 0 := by
    rw [List.getD_eq_getElem?_getD, List.getD_eq_getElem?_getD, List.getElem?_drop]
    rw [show 1 + (n - 1) = n by omega]
  rw [e1, few40]
  unfold rowsT
  rw [List.getD_eq_getElem?_getD, List.getElem?_map, List.getElem?_range (by omega)]
  show (rowR (2 * (n - 1))).getD 0 0 = _
  rw [show 2 * (n - 1) = 2 * n - 2 by omega]
theorem catL_pre : ∀ (n m i : Nat), n ≤ m → i < n + 2 → (catL m).getD i 0 = (catL n).getD i 0
  | n, 0, i, h, hi => by
    obtain rfl : n = 0 := by omega
    rfl
  | n, m + 1, i, h, hi => by
    by_cases e : n = m + 1
    · rw [e]
    · have ih := catL_pre n m i (by omega) hi
      rw [← ih]
      show (catL m ++ [_]).getD i 0 = _
      rw [List.getD_eq_getElem?_getD, List.getD_eq_getElem?_getD, List.getElem?_append_left (by rw [catL_len]; omega)]
theorem cat_few {n : Nat} (h1 : 1 ≤ n) (h2 : n ≤ 40) (m : Nat) (h3 : n < m + 2) (h4 : m ≤ 39) : (catL m).getD n 0 = few n := by
  rw [← few_cat h1 h2, catL_pre m 39 n h4 h3]
theorem cat_small : ∀ i, i ≤ 20 → (catL 39).getD i 0 < 2 ^ 64 := by decide +kernel
/-! ### all of a small count -/
abbrev Cell := List Bool × Nat × Nat
def allN (many : Nat) (c : Cell) : List Cell := (if c.2.2 < many then [(c.1 ++ [true], c.2.1 + 1, c.2.2 + 1)] else []) ++ (if 1 < c.2.1 then [(c.1 ++ [false], c.2.1 - 1, c.2.2)] else [])
def allR (many : Nat) : Nat → List Cell
  | 0 => [([true], 1, 1)]
  | n + 1 => (allR many n).flatMap (allN many)
def allF (many : Nat) : List (List Bool) := ((allR many (2 * many - 2)).filter fun c => c.2.1 == 1 && c.2.2 == many).map fun c => c.1 ++ [false]
def trees (many : Nat) : List (List Bool) := (List.range (few many)).map fun k => true :: (ur (2 * many - 2) 0 k ++ [false])
def trees' (many : Nat) : List (List Bool) := (List.range (few many)).map fun k => true :: (ur (2 * many - 2) 0 k ++ [false])
end Tw

set_option maxHeartbeats 4000000
namespace Tw
open PySem PySem.Spec PyProof.Rows L2 LamX
/-! ### text[::-1] -/
def tRevS (te : TE) : TE := fun σ H Q => te σ H fun x H1 => ∃ z, x = .str z ∧ z.length ≤ sizeLine ∧ Q (.str (S z.cps.toList.reverse)) H1
theorem rev_eq (z : Str) (u : Tok) : Txt.sliceBy z none none (-1, u) = S z.cps.toList.reverse := by
  have h := step_rev_list z u
  have e : Txt.sliceBy z none none (-1, u) = S (Txt.sliceBy z none none (-1, u)).cps.toList := S_of _
  rw [e, h]
  congr 1
  apply List.ext_getElem
  · simp [Str.length]
  · intro i h1 h2
    have h1 : i < z.cps.size := by simpa [Str.length] using h1
    rw [List.getElem_map, List.getElem_range, List.getElem_reverse]
    simp [Str.length, Array.getD]
    rw [dif_pos (by omega)]
theorem pe_revS {X : Cx} {e : Expr} {te : TE} {k : Nat} {p1 p2 p3 pos : Pos} (he : PE X e te) : PE X (.Subscript e (.Slice none none (some (.UnaryOp .USub (.Constant (.int 1) k p1) p2)) p3) pos) (tRevS te) := by
  refine ⟨fun pins s σ H Q I h => ?_⟩
  refine Subscript_ (thn (he.run pins s σ H _ I h) fun v s1 ⟨x, H1, I1, r1, q1⟩ => ?_)
  obtain ⟨z, ex, hz, q⟩ := q1
  subst ex
  obtain ⟨t, rfl⟩ := r1
  have hst : PO X (some (.UnaryOp .USub (.Constant (.int 1) k p1) p2)) (tPart (tUn (rU fun i => .int (-i)) (tC (.int 1)))) := po_some (pe_un un_neg pe_int)
  refine wpAny_Slice (thn (po_none.run pins s1 σ H1 (fun o H2 => o = none ∧ H2 = H1) I1 ⟨rfl, rfl⟩) fun vl s2 ⟨l, H2, I2, pl, el, e2⟩ => ?_)
  subst el e2
  refine thn (po_none.run pins s2 σ H2 (fun o H3 => o = none ∧ H3 = H2) I2 ⟨rfl, rfl⟩) fun vu s3 ⟨u, H3, I3, pu, eu, e3⟩ => ?_
  subst eu e3
  refine thn (hst.run pins s3 σ H3 (fun o H4 => o = some (-1) ∧ H4 = H3) I3 ⟨1, rfl, -1, rfl, rfl, rfl⟩) fun vs s4 ⟨o, H4, I4, ps, eo, e4⟩ => ?_
  subst eo e4
  have I5 : Inv X pins σ H4 { s4 with heap := s4.heap.push { cls := .type "slice", data := .fields #[vl, vu, vs] } } := I4.kept (t' := s4.toks) fun b ob q => Heap.get?_push_of_some _ q
  obtain ⟨l, rfl, hl⟩ := IsPart.raw pl
  obtain ⟨u, rfl, hu⟩ := IsPart.raw pu
  obtain ⟨st, rfl, hs⟩ := IsPart.raw ps
  cases l with
  | some l => cases hl
  | none =>
  cases u with
  | some u => cases hu
  | none =>
  cases st with
  | none => cases hs
  | some st =>
  obtain ⟨st, tk⟩ := st
  have hs : st = -1 := Option.some.inj hs
  subst hs
  refine tail_any (ops := [.str z t, .ref s4.heap.objs.size]) (typeIs_str _ _ _) F.slot_str_getitem.lookup ?_ (by with_unfolding_all rfl)
  refine wpAny_getItem_str_slice (l := none) (u := none) (st := some (-1, tk)) ⟨_, Heap.get?_push_size _ rfl, rfl, rfl⟩ rfl ?_
  refine post_val_or_str ⟨Nat.le_trans (Txt.sliceBy_le z none none (-1, tk) (show (-1 : Int) ≠ 0 by decide)) hz, fun t' c => ?_⟩
  exact ⟨.str (S z.cps.toList.reverse), H4, I5.tok _, ⟨t', by show Value.str (Txt.sliceBy z none none (-1, tk)) t' = _; rw [rev_eq]⟩, q⟩
end Tw

set_option maxHeartbeats 4000000
namespace Tw
open PySem PySem.Spec PyProof.Rows L2 LamX
/-! ### sorted(dict), keys hI, any number of them -/
def rSortD : List V → Hp → VK → Prop := fun args H Q => ∃ (d : Addr) (es : List (L2.Key × V)) (ns : List Int), args = [.ref d] ∧ Rd H d (.dK es) ∧ es.map Prod.fst = ns.map Sum.inl ∧ ns.length ≤ 100000 ∧
  ∀ (zs : List Int) (l : Addr), zs.Perm ns → zs.Pairwise (· ≤ ·) → H l = none → Q (.ref l) (upd H l (.lst (zs.map V.int)))
theorem key_int {n : Int} {u : Value} (h : keyIs (Sum.inl n) u = true) : ∃ t, u = .int n t := by
  rcases keyIs_shape h with ⟨m, t, e, r⟩ | ⟨_, _, e, _⟩
  · injection e with e
    exact ⟨t, by rw [r, e]⟩
  · exact nomatch e
theorem cr_sortedDict {X : Cx} (cm : X.calm = true) : CallR X (.builtin "sorted") rSortD := by
  intro pins st σ H args us Q I ra hyp
  obtain ⟨d, es, ns, rfl, hd, hk, hn, fin⟩ := hyp
  have eu : us = [.ref d] := by
    obtain ⟨u, rfl, ru⟩ := vals1 ra
    cases ru
    rfl
  subst eu
  obtain ⟨hz, hnm, fs, kv, dic⟩ := dk_rd I.hok hd
  obtain ⟨epoch, hda⟩ := dic.dictAt
  have hfst : fs.map Prod.fst = ns.map Sum.inl := by rw [← hk]; exact kv.keys.symm
  have hlen : fs.length = ns.length := by simpa using congrArg List.length hfst
  have big : ∀ k, k ≤ 100000 → k ≤ sizeLine := fun k h => Nat.le_trans h (by decide)
  refine Calls.call_function_entry PyProof.Rows.kind_sorted PyProof.Rows.plain_sorted PyProof.Rows.entry_sorted (PyProof.Rows.args_sorted1 _) ?_
  unfold Builtin.«sorted»
  refine wpAny_bind (m := checkCount "sorted" 1 1 _) (wpAny_pure (wpAny_bind (PySem.W.kdu_collect (A := X.A.in1) (PySem.W.kdl_dict (knd := mixKind X.prog X.w) (kvs := fs) (ep := epoch) hnm) (I.ok.hd cm) hda (big _ (hlen ▸ hn)) fun h1 tk got keep tells => ?_)))
  have glen : got.toList.length = ns.length := by simpa [hlen] using tells.1
  have hI : IntsAre got.toList ns := ints_each glen fun j v e => by
    obtain ⟨k, x, e1, e2⟩ := tells.2 j v (by simpa using e)
    have e3 : (ns.map Sum.inl)[j]? = some k := by rw [← hfst, List.getElem?_map, e1]; rfl
    rw [List.getElem?_map] at e3
    obtain ⟨n, e4, rfl⟩ := Option.map_eq_some_iff.mp e3
    obtain ⟨t, ev⟩ := key_int (n := n) e2
    exact ⟨n, t, e4, ev⟩
  have J : Inv X pins σ H { st with heap := h1, toks := tk } := I.kept keep
  refine wpAny_bind (wpAny_newList ?_ (big _ (glen ▸ hn)))
  have new : (h1.push (seqObj "list" got.toList.toArray 0)).get? h1.objs.size = some (seqObj "list" got.toList.toArray 0) := Heap.get?_push_size _ rfl
  show wpAny _ _ _ _ _ { st with heap := h1.push (seqObj "list" got.toList.toArray 0), toks := tk }
  refine wpAny_bind (wpAny_holding (wpAny_call_entry PyProof.Rows.slot_list_sort ⟨_, new, rfl⟩ PyProof.Rows.entry_list_sort (SrtO.list_sort_ord (s := { st with heap := h1.push (seqObj "list" got.toList.toArray 0), toks := tk }) SrtO.swo_int new
    (big _ (glen ▸ hn)) (fun two => SrtO.ints_sortable hI two) fun out s1 s2 => ⟨_, rfl, ?_⟩) (PyProof.Rows.args_list_sort _)))
  obtain ⟨o1, o2, o3⟩ := SrtO.ints_out hI s1 s2
  obtain ⟨e2, at2⟩ := PyProof.Rows.sortedHeap_at (vs := got.toList) (out := out.toArray) new
  have fits : ((out.map SrtO.iv).map V.int).length ≤ sizeLine := by
    rw [List.length_map, o2.length_eq]
    exact big _ hn
  refine wpAny_pure ⟨_, rfl, .ref h1.objs.size, _, J.laid (o := .lst ((out.map SrtO.iv).map V.int)) (t' := tk) (fun b u e => ?_) (Nat.le_refl _) ⟨fits, out, e2, vals_of_ints o1, at2⟩, rfl, fin _ _ o2 o3 (J.hok.fresh (Nat.le_refl _))⟩
  have hb := Heap.lt_size e
  rw [PyProof.Rows.sortedHeap_old (Nat.ne_of_lt hb) (by rw [size_push']; exact Nat.lt_succ_of_lt hb)]
  exact Heap.get?_push_of_some _ e
end Tw

set_option maxHeartbeats 4000000
namespace Tw
open PySem PySem.Spec PyProof.Rows L2 LamX
/-! ### a new heap by a name -/
section
variable {lo : Prop} {T : List (Addr × Str)} {K : PySem.W.Frag} {H H' : Hp} {p : Addr} {o : HO} {Q : VK}
theorem newE (h : upd H p o = H') (n : H p = none) : Xg lo T H H' := h ▸ .new n
theorem atE (h : upd H p o = H') : H' p = some o := h ▸ upd_same ..
theorem neS_same {z : Str} (hz : PyData.strOk z = true) (q : Q (.bl false) H) : rNeD K (.str z) (.str z) H Q := neD_same (.str _) (.str _) (sh_str hz) q
theorem neSC {σ : L2.St} {z : Str} (hz : PyData.strOk z = true) (q : Q (.bl false) H) : tC (.str z) σ H fun y H2 => rNeD K (.str z) y H2 Q := neS_same hz q
end
theorem len_app (a b : Str) : (a ++ b).length = a.length + b.length := by
  show (a.cps ++ b.cps).size = a.cps.size + b.cps.size
  exact Array.size_append
theorem lapp {a b : Str} {i j : Nat} (ha : a.length ≤ i) (hb : b.length ≤ j) : (a ++ b).length ≤ i + j := by
  rw [len_app]
  exact Nat.add_le_add ha hb
section
variable {X : Cx} {K : PySem.W.Frag}
theorem pe_revLK (eK : X.K = K) {e : Expr} {te : TE} {k : Nat} {p1 p2 p3 pos : Pos} (he : PE X e te) : PE X (.Subscript e (.Slice none none (some (.UnaryOp .USub (.Constant (.int 1) k p1) p2)) p3) pos) (tRevL K te) := by subst eK; exact pe_revL he
end
section
variable {X : Cx} {o i value : Expr} {pos pos' : Pos} {td ty tv : TE}
theorem pe_dgetU (hu : X.A.units + 64 < cLine) (ho : PE X o td) (hi : PE X i ty) (hs : NoSl i) : PE X (.Subscript o i pos) (tDGet td ty) := pe_dget (by omega) ho hi hs
theorem ps_dputU (hu : X.A.units + 64 < cLine) (ho : PE X o td) (hi : PE X i ty) (hv : PE X value tv) (hs : swapsWith value (some (.Subscript o i pos')) pos.line X.env = pure false) : PS X (.Assign [.Subscript o i pos'] value pos) (sDPut td ty tv) := ps_dput (by omega) ho hi hv hs
end
theorem mul_one (n : Nat) (h : 2 ≤ n) (b : Bool) : Txt.mul (sb [b]) (n : Int) = sb (List.replicate n b) := by
  rw [mul_sb [b] n h (by simp)]
  congr 1
  clear h
  induction n with
  | zero => rfl
  | succ n ih => rw [List.replicate_succ, List.flatten_cons, ih, List.replicate_succ]; rfl
end Tw

set_option maxHeartbeats 4000000
namespace Tw
open PySem PySem.Spec PyProof.Rows L2 LamX
/-! ### sorted(texts), any number of them -/
def LeS (a b : Str) : Prop := a.cps.toList ≤ b.cps.toList
theorem LeS.trans {a b c : Str} (h1 : LeS a b) (h2 : LeS b c) : LeS a c := List.le_trans h1 h2
theorem LeS.asym {a b : Str} (h1 : LeS a b) (h2 : LeS b a) : a = b := by
  have e := List.le_antisymm h1 h2
  cases a
  cases b
  exact congrArg Str.mk (Array.toList_inj.mp e)
theorem ris_le : ∀ (l : List Str) (p : Str), risingS p l = true → (p :: l).Pairwise LeS
  | [], p, _ => List.pairwise_singleton _ _
  | x :: r, p, h => by
    have h' : (!ltCps x.cps.toList p.cps.toList && risingS x r) = true := h
    rw [Bool.and_eq_true, ltCps_eq] at h'
    obtain ⟨h1, h2⟩ := h'
    have h1 : LeS p x := by
      intro z
      rw [decide_eq_true z] at h1
      cases h1
    have ih := ris_le r x h2
    refine List.pairwise_cons.mpr ⟨fun y hy => ?_, ih⟩
    rcases List.mem_cons.mp hy with rfl | hy
    · exact h1
    · exact h1.trans ((List.pairwise_cons.mp ih).1 y hy)
theorem sorted_le {l : List Str} (h : sortedS l = true) : l.Pairwise LeS := by
  cases l with
  | nil => exact .nil
  | cons x r => exact ris_le r x h
theorem sorted_one {l m : List Str} (h1 : sortedS l = true) (h2 : m.Pairwise LeS) (p : l.Perm m) : l = m :=
  List.Perm.eq_of_pairwise (fun a b _ _ x y => x.asym y) (sorted_le h1) h2 p
def rSortS (K : PySem.W.Frag) : List V → Hp → VK → Prop := fun vs H Q => ∃ (a : Addr) (xs : List Str), vs = [V.ref a] ∧ SqL K H a (xs.map V.str) ∧
  ∀ (ys : List Str) (p : Addr), ys.Perm xs → sortedS ys = true → H p = none → Q (.ref p) (upd H p (.lst (ys.map V.str)))
theorem cr_sortS {X : Cx} : CallR X (.builtin "sorted") (rSortS X.K) := by
  intro pins st σ H args us Q I ra hyp
  obtain ⟨a, xs, rfl, hs, fin⟩ := hyp
  obtain ⟨its, rv, hl, hz⟩ := I.list hs
  rw [Vals.ref1 ra]
  have n0 := rv.length
  have fit : its.length ≤ sizeLine := by rw [← n0]; exact hz
  refine PyProof.Rows.sorted_strsAny hl.isList rv.strs fit fun out ys h1 h2 h3 => ?_
  obtain ⟨ep, at2⟩ := PyProof.Rows.sortedAll_at st.heap its out
  have fits : (ys.map V.str).length ≤ sizeLine := by
    rw [List.length_map, h2.length_eq]
    rw [List.length_map] at hz
    exact hz
  exact ⟨.ref _, _, I.laid (o := .lst (ys.map V.str)) (t' := st.toks) (fun _ _ => PyProof.Rows.sortedAll_old) (Nat.le_succ _) ⟨fits, _, ep, vals_of_strs h1, at2⟩, rfl, fin _ _ h2 h3 (I.hok.fresh (Nat.le_succ _))⟩
theorem cr_sortSK {X : Cx} {K : PySem.W.Frag} (eK : X.K = K) : CallR X (.builtin "sorted") (rSortS K) := by subst eK; exact cr_sortS
theorem op_ltS {X : Cx} : OpR X (compareOp .Lt) (fun x y H Q => ∃ i j, x = .str i ∧ y = .str j ∧ Q (.bl (decide (i.cps.toList < j.cps.toList))) H) := op_lt_str
end Tw

set_option maxHeartbeats 4000000
namespace Tw
open PySem PyProof.Rows
theorem okP_iff : ∀ (l : List Bool) (d : Nat), okP l d = true ↔ (d : Int) + dp l = 0 ∧ ∀ i, 0 ≤ (d : Int) + dp (l.take i)
  | [], 0 => by
    refine ⟨fun _ => ⟨rfl, fun i => ?_⟩, fun _ => rfl⟩
    rw [List.take_nil]
    exact Int.le_refl _
  | [], d + 1 => by
    refine ⟨fun h => (by cases h), fun h => ?_⟩
    have := h.1
    rw [dp_nil] at this
    omega
  | true :: l, d => by
    have ih := okP_iff l (d + 1)
    show okP l (d + 1) = true ↔ _
    rw [ih, dp_up]
    refine ⟨fun h => ⟨by omega, fun i => ?_⟩, fun h => ⟨by omega, fun i => ?_⟩⟩
    · cases i with
      | zero =>
        rw [List.take_zero, dp_nil]
        omega
      | succ i =>
        rw [List.take_succ_cons, dp_up]
        have := h.2 i
        omega
    · have := h.2 (i + 1)
      rw [List.take_succ_cons, dp_up] at this
      omega
  | false :: l, 0 => by
    refine ⟨fun h => (by cases h), fun h => ?_⟩
    have := h.2 1
    rw [List.take_succ_cons, dp_dn, List.take_zero, dp_nil] at this
    omega
  | false :: l, d + 1 => by
    have ih := okP_iff l d
    show okP l d = true ↔ _
    rw [ih, dp_dn]
    refine ⟨fun h => ⟨by omega, fun i => ?_⟩, fun h => ⟨by omega, fun i => ?_⟩⟩
    · cases i with
      | zero =>
        rw [List.take_zero, dp_nil]
        omega
      | succ i =>
        rw [List.take_succ_cons, dp_dn]
        have := h.2 i
        omega
    · have := h.2 (i + 1)
      rw [List.take_succ_cons, dp_dn] at this
      omega
theorem okP_even : ∀ (l : List Bool) (d : Nat), okP l d = true → (l.length + d) % 2 = 0
  | [], 0, _ => rfl
  | [], _ + 1, h => by cases h
  | true :: l, d, h => by
    have := okP_even l (d + 1) h
    rw [List.length_cons]
    omega
  | false :: l, 0, h => by cases h
  | false :: l, d + 1, h => by
    have := okP_even l d h
    rw [List.length_cons]
    omega
theorem dp_len : ∀ l : List Bool, dp l ≤ l.length ∧ -(l.length : Int) ≤ dp l
  | [] => ⟨Int.le_refl _, Int.le_refl _⟩
  | b :: l => by
    obtain ⟨h1, h2⟩ := dp_len l
    cases b
    · rw [dp_dn, List.length_cons]
      omega
    · rw [dp_up, List.length_cons]
      omega
/-- the bits of a tree about its inner ones -/
theorem okT_in {m : List Bool} (h : okP m 0 = true) (hl : m.length ≤ 398) : okT (true :: (m ++ [false])) := by
  obtain ⟨h1, h2⟩ := (okP_iff m 0).mp h
  have e : ∀ i, dp ((true :: (m ++ [false])).take (i + 1)) = if i ≤ m.length then 1 + dp (m.take i) else 0 := fun i => by
    rw [List.take_succ_cons, dp_up, take_app_dp]
    split
    · rfl
    · rw [List.take_of_length_le (show [false].length ≤ i - m.length by simp only [List.length_singleton]; omega), dp_dn, dp_nil]
      omega
  have b : ∀ i, dp (m.take i) ≤ 199 := fun i => by
    have a1 := (dp_len (m.take i)).1
    have a2 : dp m = dp (m.take i) + dp (m.drop i) := by rw [← dp_app, List.take_append_drop]
    have a3 := (dp_len (m.drop i)).2
    rw [List.length_take] at a1
    rw [List.length_drop] at a3
    omega
  refine ⟨by simp, fun i h0 hi => ?_, ?_, fun i _ => ?_⟩
  · obtain ⟨i, rfl⟩ : ∃ k, i = k + 1 := ⟨i - 1, by omega⟩
    rw [List.length_cons, List.length_append, List.length_singleton] at hi
    rw [e, if_pos (by omega)]
    have := h2 i
    omega
  · rw [dp_up, dp_app, dp_dn, dp_nil]
    omega
  · cases i with
    | zero =>
      rw [List.take_zero, dp_nil]
      decide
    | succ i =>
      rw [e]
      split
      · have := b i
        omega
      · decide
/-- a tree's own -/
theorem inner_of {cs : List Ob} (h : isTL cs = true) : btT (.li cs) = true :: (btL cs ++ [false]) ∧ okP (btL cs) 0 = true := by
  refine ⟨rfl, (okP_iff _ 0).mpr ?_⟩
  obtain ⟨z, lo, _, _⟩ := ud_L cs h
  exact ⟨by rw [z]; rfl, fun i => by have := lo i; omega⟩
/-! ### all trees of a small count, in their order -/
theorem allF_rev : ∀ m, m < 8 → 1 ≤ m → (allF m).reverse = trees m := by decide +kernel
theorem trees_ris : ∀ m, m < 8 → sortedS ((trees m).map sb) = true := by decide +kernel
theorem trees_len (m : Nat) : (trees m).length = few m := by
  unfold trees
  rw [List.length_map, List.length_range]
theorem all_sorted {m : Nat} (h1 : 1 ≤ m) (h2 : m < 8) {ys : List Str} (p : ys.Perm ((allF m).map sb)) (s : sortedS ys = true) : ys = (trees m).map sb := by
  refine sorted_one s (sorted_le (trees_ris m h2)) (p.trans ?_)
  rw [← allF_rev m h2 h1]
  exact ((List.reverse_perm _).symm).map sb
theorem trees_at {m k : Nat} (h : k < few m) : (trees m)[k]? = some (true :: (ur (2 * m - 2) 0 k ++ [false])) := by
  unfold trees
  rw [List.getElem?_map, List.getElem?_range h]
  rfl
theorem few_pos : ∀ m, m < 41 → 1 ≤ m → 1 ≤ few m := fun m h1 h2 => by
  have h := few40
  rw [← few_cat h2 (by omega)]
  have : ∀ i, i < 41 → 1 ≤ i → 1 ≤ (catL 39).getD i 0 := by decide +kernel
  exact this m h1 h2
theorem few_small : ∀ m, m < 8 → 1 ≤ m → few m ≤ 132 := fun m h1 h2 => by
  rw [← few_cat h2 (by omega)]
  have : ∀ i, i < 8 → 1 ≤ i → (catL 39).getD i 0 ≤ 132 := by decide +kernel
  exact this m h1 h2
theorem lt_app : ∀ (a b c : List Nat), a.length = b.length → (a ++ c < b ++ c ↔ a < b)
  | [], [], c, _ => by simp
  | [], _ :: _, _, h => by simp at h
  | _ :: _, [], _, h => by simp at h
  | x :: a, y :: b, c, h => by
    have ih := lt_app a b c (Nat.succ.inj h)
    rw [List.cons_append, List.cons_append, List.cons_lt_cons_iff, List.cons_lt_cons_iff]
    constructor
    · rintro (q | ⟨q, r⟩)
      · exact .inl q
      · exact .inr ⟨q, ih.mp r⟩
    · rintro (q | ⟨q, r⟩)
      · exact .inl q
      · exact .inr ⟨q, ih.mpr r⟩
/-- less by signs, less by number: whole trees -/
theorem less_T {l m : List Bool} (e : l.length = m.length) (hl : okP l 0 = true) (hm : okP m 0 = true) : ((true :: (l ++ [false])).map bc < (true :: (m ++ [false])).map bc) ↔ rk l 0 < rk m 0 := by
  rw [← rk_less l m 0 e hl hm, List.map_cons, List.map_cons, List.cons_lt_cons_iff, List.map_append, List.map_append]
  have q := lt_app (l.map bc) (m.map bc) ([false].map bc) (by rw [List.length_map, List.length_map, e])
  constructor
  · rintro (z | ⟨_, r⟩)
    · exact absurd z (Nat.lt_irrefl _)
    · exact q.mp r
  · exact fun r => .inr ⟨rfl, q.mpr r⟩
open L2 in
/-- all but the first and the last sign -/
theorem cut_in (m : List Bool) : cutS (sb (true :: (m ++ [false]))) (some 1) (some (-1)) = S (m.map bc) := by
  have hlen : (sb (true :: (m ++ [false]))).length = m.length + 2 := by rw [sb_len, List.length_cons, List.length_append, List.length_singleton]
  unfold cutS
  have h1 : HT.sIx (sb (true :: (m ++ [false]))).length 0 (some 1) = 1 := by
    rw [show (1 : Int) = ((1 : Nat) : Int) from rfl, HT.sIx_nat]
    omega
  have h2 : HT.sIx (sb (true :: (m ++ [false]))).length (sb (true :: (m ++ [false]))).length (some (-1)) = m.length + 1 := by
    show (if (-1 : Int) < 0 then ((-1 : Int) + ((sb (true :: (m ++ [false]))).length : Int)).toNat else min (-1 : Int).toNat (sb (true :: (m ++ [false]))).length) = m.length + 1
    rw [if_pos (by decide), hlen]
    omega
  rw [h1, h2]
  unfold sb S
  congr 1
  show ((((true :: (m ++ [false])).map bc).drop 1).take (m.length + 1 - 1)).toArray = _
  rw [Nat.add_sub_cancel, List.map_cons, List.drop_one, List.tail_cons, List.map_append, List.take_left' (by rw [List.length_map])]
theorem allR_len (m : Nat) : ∀ (n : Nat) (c : Cell), c ∈ allR m n → c.1.length = n + 1
  | 0, c, h => by
    have : c = ([true], 1, 1) := by simpa [allR] using h
    rw [this]
    rfl
  | n + 1, c, h => by
    have h' : c ∈ (allR m n).flatMap (allN m) := h
    obtain ⟨d, hd, hc⟩ := List.mem_flatMap.mp h'
    have ih := allR_len m n d hd
    unfold allN at hc
    rcases List.mem_append.mp hc with hc | hc
    · split at hc
      · rw [List.mem_singleton.mp hc]
        show (d.1 ++ [true]).length = _
        rw [List.length_append, ih]
        rfl
      · cases hc
    · split at hc
      · rw [List.mem_singleton.mp hc]
        show (d.1 ++ [false]).length = _
        rw [List.length_append, ih]
        rfl
      · cases hc
theorem allN_len (m : Nat) (c : Cell) : (allN m c).length ≤ 2 := by
  unfold allN
  rw [List.length_append]
  split <;> split <;> simp
theorem flat_two {α β : Type} {f : α → List β} (h : ∀ a, (f a).length ≤ 2) : ∀ l : List α, (l.flatMap f).length ≤ 2 * l.length
  | [] => Nat.zero_le _
  | a :: l => by
    rw [List.flatMap_cons, List.length_append, List.length_cons]
    have h1 := h a
    have h2 := flat_two h l
    omega
theorem allR_few (m : Nat) : ∀ n, (allR m n).length ≤ 2 ^ n
  | 0 => Nat.le_refl _
  | n + 1 => by
    show ((allR m n).flatMap (allN m)).length ≤ _
    have h1 := flat_two (allN_len m) (allR m n)
    have h2 := allR_few m n
    rw [Nat.pow_succ]
    omega
theorem catV_at {i k : Nat} (h : k < i + 2) : ((catL i).map fun x : Nat => L2.V.int (x : Int))[k]? = some (.int (((catL i).getD k 0 : Nat) : Int)) := by
  have hl : k < (catL i).length := by rw [catL_len]; exact h
  rw [List.getElem?_map, List.getD_eq_getElem?_getD, List.getElem?_eq_getElem hl]
  rfl
theorem cast_sum : ∀ l : List Nat, (l.map fun k : Nat => (k : Int)).sum = ((l.sum : Nat) : Int)
  | [] => rfl
  | x :: l => by
    rw [List.map_cons, List.sum_cons, List.sum_cons, cast_sum l]
    omega
end Tw

set_option maxHeartbeats 4000000
namespace Tw
open PySem PySem.Spec PyProof.Rows L2 LamX
/-! ### refusals told one behind the other -/
structure BN (T : List (Addr × Str)) (H0 : Hp) (z : Str) (p : Addr) (i : Nat) (H : Hp) : Prop where
  x : Xt T H0 H
  n : Nw H0 p
  e : H p = some (.lst (List.replicate i (.str z)))
section
variable {T : List (Addr × Str)} {K : PySem.W.Frag} {H0 H H' : Hp} {p p2 : Addr} {z : Str} {i : Nat}
theorem BN.xt (s : BN T H0 z p i H) (x : Xt T H H') : BN T H0 z p i H' := ⟨s.x.trans x, s.n, x.lst s.e⟩
theorem BN.app (s : BN T H0 z p i H) (h : upd H p (.lst (List.replicate i (.str z) ++ [.str z])) = H') : BN T H0 z p (i + 1) H' := by
  subst h
  exact ⟨s.x.mut s.n s.e, s.n, by rw [upd_same, List.replicate_succ']⟩
theorem BN.new (x : Xt T H0 H) (n : H p = none) (h : upd H p (.lst [.str z]) = H') : BN T H0 z p 1 H' :=
  ⟨x.trans (newE h n), x.nw (.of n), atE h⟩
theorem BN.cat (s : BN T H0 z p i H) (n : H p2 = none) (h : upd H p2 (.lst (List.replicate i (.str z) ++ [.str z])) = H') : BN T H0 z p2 (i + 1) H' :=
  ⟨s.x.trans (newE h n), s.x.nw (.of n), by rw [atE h, List.replicate_succ']⟩
theorem rep_lt (h : i ≤ 1000) : (List.replicate i (V.str z)).length < sizeLine := by
  rw [List.length_replicate]
  exact Nat.lt_of_le_of_lt h (by decide)
theorem rep_flatV (n : Nat) (v : V) : (List.replicate n [v]).flatten = List.replicate n v := by
  induction n with
  | zero => rfl
  | succ n ih => rw [List.replicate_succ, List.flatten_cons, ih, List.replicate_succ]; rfl
theorem dp_rep {a : Addr} {n : Nat} (e : H a = some (.lst (List.replicate n (.str z)))) : Dp K H (.ref a) (.list ((List.replicate n z).map .str)) := dp_strs (SqL.of (by rw [e, List.map_replicate]))
theorem sh_rep {n : Nat} (h : PyData.strOk z = true) : Sh 64 (.list ((List.replicate n z).map .str)) := sh_strs fun x hx => by rw [(List.mem_replicate.mp hx).2]; exact h
theorem gv {j : Nat} {v x : V} {σ : L2.St} {D : L2.St → Hp → Prop} (e : x = v) (h : gName j v σ H D) : gName j x σ H D := by
  subst e
  exact h
end
end Tw

set_option maxHeartbeats 4000000
namespace Tw
open PySem PySem.Spec PyProof.Rows L2 LamX
section
variable {P : Program} {w : World} {K : PySem.W.Frag} {mg : Str → Option Value} {base : Heap}
def spNeeds (K : PySem.W.Frag) : Sp := fun vs H Q E => ∃ n : Int, vs = [.int n] ∧ (0 ≤ n → Q (.int (nd n.toNat)) H) ∧ (n < 0 → E (.ref (He.ga K "BadNumber")) none H)
theorem ok_needs (T : Tx K mg) : OkN P w K mg base ("needs", none) 1 ["number"] (spNeeds K) := by
  refine T.F_needs.ok sc_needs (fun vs H Q E h => ?_) (fun cdv A outer s H vs Q E hr h => ?_)
  · obtain ⟨n, rfl, _⟩ := h
    rfl
  · obtain ⟨n, rfl, q1, q2⟩ := h
    refine ⟨_, (pss_cons (ps_if (pt_cmpR op_lt (pv 0) pe_int (nomark _))
    (pss_one (ps_rz T.x_BadNumber rfl (by decide))) pss_nil)
    (pss_cons (ps_set (i := 1) sc_needs.nd rfl (.inl rfl) pe_int)
    (pss_cons (ps_while (passes_of rfl) (pt_cmpR op_gt (pv 0) pe_int (nomark _))
    (pss_cons (ps_set (i := 0) sc_needs.nd rfl (.inl rfl) (pe_op op_fdiv (pv 0) pe_int))
    (pss_one (ps_set (i := 1) sc_needs.nd rfl (.inl rfl) (pe_op op_add (pv 1) pe_int)))))
    (pss_one (ps_ret (pv 1)))))), ?_⟩
    refine ⟨_, rfl, _, _, rfl, rfl, _, rfl, ite2 (fun e => q2 (of_decide_eq_true e)) (fun e => ?_)⟩
    have h0 : 0 ≤ n := by simp only [decide_eq_true_eq] at e; omega
    refine ⟨fun m σ H' => ∃ c : Nat, σ = [some (.int m), some (.int c)] ∧ H' = H ∧ c + nd m = nd n.toNat, ⟨n.toNat, 0, by rw [Int.toNat_of_nonneg h0]; rfl, rfl, Nat.zero_add _⟩, fun m σ H' hW => ?_⟩
    obtain ⟨c, rfl, rfl, ec⟩ := hW
    refine ⟨_, rfl, _, _, rfl, rfl, _, rfl, ite2 (fun e => ?_) (fun e => ?_)⟩
    · have hm : 0 < m := by simp only [decide_eq_true_eq] at e; omega
      refine ⟨fun σ' H'' => ∃ m', m' < m ∧ ∃ c : Nat, σ' = [some (.int m'), some (.int c)] ∧ H'' = H' ∧ c + nd m' = nd n.toNat, fun _ _ h => h, ?_⟩
      refine ⟨_, rfl, _, _, rfl, rfl, ⟨by decide, by decide⟩, _, rfl, _, _, rfl, rfl, m / 2, by omega, c + 1, ?_, rfl, ?_⟩
      · exact rfl
      · rw [← ec, nd_pos hm]; omega
    · have hm : m = 0 := by simp only [decide_eq_true_eq] at e; omega
      subst hm
      refine ⟨_, rfl, ?_⟩
      have e0 : c = nd n.toNat := by rw [← ec, nd_zero]; rfl
      rw [e0]
      exact q1 h0
def spLNeeds : Sp := fun vs H Q _ => ∃ n : Nat, vs = [.int n] ∧ Q (.int (nd n)) H
theorem ok__law_needs (T : Tx K mg) : OkN P w K mg base ("_law_needs", none) 1 ["_law_number"] spLNeeds := by
  refine T.F__law_needs.ok sc__law_needs (fun vs H Q E h => ?_) (fun cdv A outer s H vs Q E hr h => ?_)
  · obtain ⟨n, rfl, _⟩ := h
    rfl
  · obtain ⟨n, rfl, q1⟩ := h
    refine ⟨_, (pss_cons (ps_set (i := 1) sc__law_needs.nd rfl (.inl rfl) pe_int)
    (pss_cons (ps_while (passes_of rfl) (pt_cmpR op_gt (pv 0) pe_int (nomark _))
    (pss_cons (ps_set (i := 0) sc__law_needs.nd rfl (.inl rfl) (pe_op op_fdiv (pv 0) pe_int))
    (pss_one (ps_set (i := 1) sc__law_needs.nd rfl (.inl rfl) (pe_op op_add (pv 1) pe_int)))))
    (pss_one (ps_ret (pv 1))))), ?_⟩
    refine ⟨fun m σ H' => ∃ c : Nat, σ = [some (.int m), some (.int c)] ∧ H' = H ∧ c + nd m = nd n, ⟨n, 0, rfl, rfl, Nat.zero_add _⟩, fun m σ H' hW => ?_⟩
    obtain ⟨c, rfl, rfl, ec⟩ := hW
    refine ⟨_, rfl, _, _, rfl, rfl, _, rfl, ite2 (fun e => ?_) (fun e => ?_)⟩
    · have hm : 0 < m := by simp only [decide_eq_true_eq] at e; omega
      refine ⟨fun σ' H'' => ∃ m', m' < m ∧ ∃ c : Nat, σ' = [some (.int m'), some (.int c)] ∧ H'' = H' ∧ c + nd m' = nd n, fun _ _ h => h, ?_⟩
      refine ⟨_, rfl, _, _, rfl, rfl, ⟨by decide, by decide⟩, _, rfl, _, _, rfl, rfl, m / 2, by omega, c + 1, ?_, rfl, ?_⟩
      · exact rfl
      · rw [← ec, nd_pos hm]; omega
    · have hm : m = 0 := by simp only [decide_eq_true_eq] at e; omega
      subst hm
      refine ⟨_, rfl, ?_⟩
      have e0 : c = nd n := by rw [← ec, nd_zero]; rfl
      rw [e0]
      exact q1
def spInBits : Sp := fun vs H Q _ => ∃ n w : Nat, vs = [.int n, .int w] ∧ w ≤ 100000 ∧ Q (.str (sb (bn n w))) H
theorem ok__law_bits (T : Tx K mg) : OkN P w K mg base ("_law_bits", none) 1 ["_law_number", "_law_wide"] spInBits := by
  refine T.F__law_bits.ok sc__law_bits (fun vs H Q E h => ?_) (fun cdv A outer s H vs Q E hr h => ?_)
  · obtain ⟨n, wd, rfl, _⟩ := h
    rfl
  · obtain ⟨n, wd, rfl, hw, q⟩ := h
    refine ⟨_, (pss_cons (ps_set (i := 2) sc__law_bits.nd rfl (.inl rfl) pe_str)
    (pss_cons (ps_for (passes_of rfl) rfl (pi_range1 (by rfl) T.z_range (pa_cons (pv 1) pa_nil)) (pg_name (i := 3) sc__law_bits.nd rfl (.inl rfl))
    (pss_cons (ps_set (i := 2) sc__law_bits.nd rfl (.inl rfl) (pe_op op_add_str (pe_callTy call_str_int (by rfl) T.z_str b_str (pa_cons (pe_op op_mod (pv 0) pe_int) pa_nil)) (pv 2)))
    (pss_one (ps_set (i := 0) sc__law_bits.nd rfl (.inl rfl) (pe_op op_fdiv (pv 0) pe_int)))))
    (pss_one (ps_ret (pv 2))))), ?_⟩
    refine ⟨_, rfl, _, rfl, by omega, by omega, for_it w_range (fun i σ H' => H' = H ∧ ∃ t, σ = [some (.int ((n / 2 ^ i : Nat) : Int)), some (.int wd), some (.str (sb (bn n i))), t]) ⟨rfl, none, by rw [Nat.pow_zero, Nat.div_one, bn, ← sb_nil]; rfl⟩ (fun _ _ _ _ _ => trivial) ?_ ?_⟩
    · intro i x σ H1 H2 hi p hy
      obtain ⟨rfl, t, rfl⟩ := p
      obtain ⟨rfl, rfl⟩ := hy
      have h2 : (((n / 2 ^ i : Nat) : Int) % 2).natAbs.log2 < 1920 := by
        have : (((n / 2 ^ i : Nat) : Int) % 2).natAbs < 2 := by omega
        refine Nat.lt_of_le_of_lt (Nat.log2_le_self _) ?_
        omega
      have hi2 : i < wd := by omega
      refine ⟨_, rfl, _, _, rfl, rfl, (show (0 : Int) < 2 by decide), _, rfl, h2, _, rfl, _, _, rfl, rfl, ?_, ?_⟩
      · rw [str_bit, sb_len, sb_len, bn_len]
        exact Nat.le_trans (by show 1 + i ≤ 100001; omega) (by decide)
      · refine ⟨_, rfl, _, _, rfl, rfl, ⟨by decide, by decide⟩, rfl, some (.int (0 + i)), ?_⟩
        have e : (Str.ofString (toString (((n / 2 ^ i : Nat) : Int) % 2)) : Str) ++ sb (bn n i) = sb (bn n (i + 1)) := by
          rw [str_bit, sb_app, bn_front]
          rfl
        have e2 : (((n / 2 ^ i : Nat) : Int) / 2) = ((n / 2 ^ (i + 1) : Nat) : Int) := by
          rw [Nat.pow_succ, ← Nat.div_div_eq_div_mul]
          omega
        rw [e, ← e2]
        rfl
    · intro σ H1 p
      obtain ⟨rfl, t, rfl⟩ := p
      exact ⟨_, rfl, by rw [Int.toNat_natCast] at *; exact q⟩
def spNeedBits (K : PySem.W.Frag) : Sp := fun vs H Q E => ∃ z : Str, vs = [.str z] ∧ z.length ≤ 100000 ∧ (IsB z → ∀ H', Xs (tK K) H H' → Q .non H') ∧ (¬ IsB z → ∀ H', Xs (tK K) H H' → E (.ref (He.ga K "BadBits")) none H')
theorem ok_need_bits (T : Tx K mg) : OkN P w K mg base ("need_bits", none) 1 ["bits"] (spNeedBits K) := by
  refine T.F_need_bits.ok sc_need_bits (fun vs H Q E h => ?_) (fun cdv A outer s H vs Q E hr h => ?_)
  · obtain ⟨z, rfl, _⟩ := h
    rfl
  · obtain ⟨z, rfl, hl, q1, q2⟩ := h
    obtain ⟨l, rfl⟩ : ∃ l, z = S l := ⟨_, S_of z⟩
    rw [S_len] at hl
    refine ⟨_, (pss_one (ps_if (pt_not (pt_val (pe_callB (cr_allK (K := K) rfl rfl) (by rfl) T.z_all b_all (pa_cons (pe_lc (own := [("sign", 1)]) rfl sc_need_bits.nd (pi_str (pv 0)) (blkOk_by (N := N_need_bits) (sc := defScope s_need_bits) (by decide +kernel)) (fun _ _ _ _ _ => (pg_name (i := 1) sc_need_bits.nd rfl (.inl rfl))) (fun _ _ _ _ _ => pts_nil) (fun _ _ _ _ _ => (pe_cmpR op_in_sign (pv 1) pe_str (by rfl)))) pa_nil))))
    (pss_one (ps_rz T.x_BadBits rfl (by decide))) pss_nil)), ?_⟩
    refine ⟨_, rfl, _, rfl, fun D hD => lcPs (T := tK K) w_str hD (by omega) (fun _ _ => trivial) (fun i => .bl (decide (l.getD i 0 ∈ [48, 49]))) ?_ fun H1 x1 e1 => ?_⟩
    · intro i x H1 hi hy x1 Q q
      obtain ⟨c, hc, rfl⟩ := hy
      refine ⟨_, rfl, _, _, rfl, rfl, ?_⟩
      rw [signs01]
      have e : l.getD i 0 = c := by rw [List.getD_eq_getElem?_getD, hc]; rfl
      rw [e] at q
      exact q H1 Xs.refl
    · refine ⟨D, (List.range l.length).map fun i => decide (l.getD i 0 ∈ [48, 49]), rfl, SqL.of (by rw [e1, List.map_map]; rfl), _, rfl, ?_⟩
      rw [all_bits]
      refine ite2 (fun e => ?_) (fun e => ?_)
      · exact q2 (fun hb => by rw [isB_iff] at hb; rw [decide_eq_true hb] at e; cases e) H1 x1
      · refine q1 ((isB_iff l).mpr (by by_cases h : ∀ c ∈ l, c = 48 ∨ c = 49; exact h; rw [decide_eq_false h] at e; exact absurd rfl e)) H1 x1
end
end Tw

set_option maxHeartbeats 4000000
namespace Tw
open PySem PySem.Spec PyProof.Rows L2 LamX
def spDrawn : Sp := fun vs H Q _ => ∃ c k : Int, vs = [.int c, .int k] ∧ 0 ≤ k ∧ k ≤ 1000000 ∧ Q (.int (dr c k)) H
section
variable {P : Program} {w : World} {K : PySem.W.Frag} {mg : Str → Option Value} {base : Heap}
theorem ok__law_drawn (T : Tx K mg) : OkN P w K mg base ("_law_drawn", none) 1 ["_law_cell_here", "_law_k"] spDrawn := by
  refine T.F__law_drawn.ok sc__law_drawn (fun vs H Q E h => ?_) (fun cdv A outer s H vs Q E hr h => ?_)
  · obtain ⟨c, k, rfl, _⟩ := h
    rfl
  · obtain ⟨c, k, rfl, h0, hk, q⟩ := h
    refine ⟨_, (pss_cons (ps_set (i := 2) sc__law_drawn.nd rfl (.inl rfl) (pe_op op_mod (pe_op op_add (pe_op op_mul (pv 0) pe_int) (pe_op op_mul (pe_op op_add (pv 1) pe_int) pe_int)) pe_int))
    (pss_cons (ps_set (i := 2) sc__law_drawn.nd rfl (.inl rfl) (pe_op op_mod (pe_op op_mulW (pv 2) (pv 2)) pe_int))
    (pss_cons (ps_set (i := 2) sc__law_drawn.nd rfl (.inl rfl) (pe_op op_mulW (pe_op op_mulW (pe_op op_add (pe_op op_mod (pv 2) pe_int) pe_int) (pe_op op_add (pe_op op_fdivW (pv 2) pe_int) pe_int)) (pv 2)))
    (pss_one (ps_ret (pe_op op_mod (pv 2) pe_int)))))), ?_⟩
    refine ⟨_, rfl, _, _, rfl, rfl, .inr ⟨by decide, by decide⟩, _, rfl, _, _, rfl, rfl, _, _, rfl, rfl, .inr ⟨by decide, by decide⟩, _, _, rfl, rfl, _, _, rfl, rfl, (show (0 : Int) < pA by decide), ?_⟩
    refine ⟨_, rfl, _, rfl, _, _, rfl, rfl, wide_mul (a := 129) (b := 129) (dr1_abs c k) (dr1_abs c k) (by decide) (by decide) (by decide), _, _, rfl, rfl, (show (0 : Int) < pB by decide), ?_⟩
    refine ⟨_, rfl, _, _, rfl, rfl, (show (0 : Int) < pC by decide), _, _, rfl, rfl, _, rfl, _, _, rfl, rfl, (wide_div (b := 64) (by decide) (by decide) (by decide) (by decide)), _, _, rfl, rfl, _, _, rfl, rfl, ?_, _, rfl, _, _, rfl, rfl, ?_, ?_⟩
    · exact wide_mul (a := 65) (b := 129) (dr2_a c k) (dr2_b c k) (by decide) (by decide) (by decide)
    · exact wide_mul (a := 194) (b := 129) (wide_lt (a := 65) (b := 129) (dr2_a c k) (dr2_b c k)) (dr2_abs c k) (by decide) (by decide) (by decide)
    exact ⟨_, rfl, _, _, rfl, rfl, (show (0 : Int) < pA by decide), q⟩
def spCell (K : PySem.W.Frag) : Sp := fun vs H Q _ => ∃ (a : Addr) (ns : List Int) (k : Nat), vs = [.ref a, .int k] ∧ SqL K H a (ns.map .int) ∧ k ≤ 1000000 ∧ ns.length ≤ 1000000 ∧ ∀ H', Xt (tK K) H H' → Q (.int (cellV ns k)) H'
theorem ok__law_cell (T : Tx K mg) : OkN P w K mg base ("_law_cell", none) 1 ["_law_script", "_law_k"] (spCell K) := by
  refine T.F__law_cell.ok sc__law_cell (fun vs H Q E h => ?_) (fun cdv A outer s H vs Q E hr h => ?_)
  · obtain ⟨a, ns, k, rfl, _⟩ := h
    rfl
  · obtain ⟨a, ns, k, rfl, ha, hk, hl, q⟩ := h
    refine ⟨_, (pss_cons (ps_if (pt_cmpR (op_eqDK (K := K) rfl hr.units) (pv 0) (pe_lst pa_nil) (nomark _))
    (pss_one (ps_ret (pe_op op_mul (pv 1) pe_int))) pss_nil)
    (pss_one (ps_ret (pe_op op_add (pe_ix (ix_listK (K := K) rfl) (pv 0) (pe_op op_mod (pv 1) (pe_callB (call_len_seqK (K := K) rfl) (by rfl) T.z_len b_len (pa_cons (pv 0) pa_nil))) (fun _ _ => rfl)) (pe_op op_mul (pe_op op_fdivW (pv 1) (pe_callB (call_len_seqK (K := K) rfl) (by rfl) T.z_len b_len (pa_cons (pv 0) pa_nil))) pe_int))))), ?_⟩
    refine ⟨_, rfl, by decide, fun p hp => ?_⟩
    have x : Xt (tK K) H (upd H p (.lst [])) := Xt.new hp
    refine eqD_of (d := .list (ns.map .int)) (e := .list (([] : List Int).map .int)) (dp_ints (x.seq ha)) (dp_ints (SqL.of (by rw [upd_same]; rfl))) sh_ints sh_ints ?_
    rw [eqv_ints]
    unfold cellV at q
    by_cases h0 : ns = []
    · rw [if_pos h0] at q
      rw [decide_eq_true h0]
      exact ⟨_, rfl, iteT ⟨_, rfl, _, _, rfl, rfl, .inr ⟨by decide, by decide⟩, q _ x⟩⟩
    · rw [if_neg h0] at q
      rw [decide_eq_false h0]
      have hn : 0 < ns.length := List.length_pos_iff.mpr h0
      have em : (k : Int) % ((ns.map V.int).length : Int) = ((k % ns.length : Nat) : Int) := by rw [List.length_map]; exact (Int.natCast_emod _ _).symm
      have ed : (k : Int) / ((ns.map V.int).length : Int) = ((k / ns.length : Nat) : Int) := by rw [List.length_map]; exact (Int.natCast_ediv _ _).symm
      have hm : k % ns.length < ns.length := Nat.mod_lt _ hn
      refine ⟨_, rfl, iteF ⟨_, rfl, _, rfl, _, rfl, _, _, rfl, .inl (x.seq ha), _, _, rfl, rfl, ?_, _, _, _, .int (ns.getD (k % ns.length) 0), rfl, rfl, x.seq ha, ?_, _, rfl, _, rfl, _, _, rfl, .inl (x.seq ha), _, _, rfl, rfl, ?_, _, _, rfl, rfl, .inr ⟨by decide, by decide⟩, _, _, rfl, rfl, ?_⟩⟩
      · show (0 : Int) < ((ns.map V.int).length : Int)
        rw [List.length_map]
        omega
      · rw [em]
        refine atI_nat ?_
        rw [List.getElem?_map, List.getD_eq_getElem?_getD, List.getElem?_eq_getElem hm]
        rfl
      · refine wide_div (b := 20) ?_ ?_ (by decide) (by decide)
        · rw [List.length_map]
          omega
        · rw [List.length_map]
          omega
      · rw [ed]
        exact q _ x
end
end Tw

set_option maxHeartbeats 4000000
namespace Tw
open PySem PySem.Spec PyProof.Rows L2 LamX
section
variable {P : Program} {w : World} {K : PySem.W.Frag} {mg : Str → Option Value} {base : Heap}
theorem isi_list {H : Hp} {v : V} {o : Ob} {Q : VK} {σ : L2.St} (h : ObAt K H v o) (q1 : ∀ cs, o = .li cs → Q (.bl true) H) (q2 : o = .no → Q (.bl false) H) : tCons (tC (.ty "list")) tNil σ H fun xs H2 => rIsi K (v :: xs) H2 Q := by
  show rIsi K [v, .ty "list"] H Q
  cases h with
  | li e hs => exact ⟨_, _, _, _, true, rfl, .ty "list", .base (.lst e), by rfl, q1 _ rfl⟩
  | no h =>
    have q2 := q2 rfl
    cases h with
    | non => exact ⟨_, _, _, _, false, rfl, .ty "list", .base .non, by rfl, q2⟩
    | int i => exact ⟨_, _, _, _, false, rfl, .ty "list", .base (.int i), by rfl, q2⟩
    | str z => exact ⟨_, _, _, _, false, rfl, .ty "list", .base (.str z), by rfl, q2⟩
    | tup e => exact ⟨_, _, _, _, false, rfl, .ty "list", .base (.tup e), by rfl, q2⟩
    | dK e => exact ⟨_, _, _, _, false, rfl, .ty "list", .base (.dK e), by rfl, q2⟩
def sgV (s : List Bool) : List V := s.map fun b => .str (sb [b])
def spSigns (K : PySem.W.Frag) (n : Nat) : Sp := fun vs H Q E => ∃ (v : V) (o : Ob) (d : Nat), vs = [v, .int d] ∧ ObAt K H v o ∧ ht o < n ∧ d ≤ 100000 ∧
  (∀ s, sgn o d = some s → ∀ H' p, Xs (tK K) H H' → Nw H p → H' p = some (.lst (sgV s)) → Q (.ref p) H') ∧ (sgn o d = none → ∀ H', Xs (tK K) H H' → E (.ref (He.ga K "BadTree")) none H')
theorem ok_signs_of (T : Tx K mg) : ∀ n, OkN P w K mg base ("signs_of", none) n ["tree", "deep"] (spSigns K n)
  | 0 => ⟨fun vs H Q E h => by obtain ⟨v, o, d, rfl, _⟩ := h; rfl, fun A outer s H args us vs Q E _ _ _ _ h => by obtain ⟨v, o, d, _, _, h, _⟩ := h; omega⟩
  | n + 1 => by
    have ih := ok_signs_of T n
    refine T.F_signs_of.ok sc_signs_of (fun vs H Q E h => ?_) (fun cdv A outer s H vs Q E hr h => ?_)
    · obtain ⟨v, o, d, rfl, _⟩ := h
      rfl
    · obtain ⟨v, o, d, rfl, ho, hn, hd, q1, q2⟩ := h
      refine ⟨_, (pss_cons (ps_if (PW.pt (pw_or (pt_not (pt_val (pe_callB (call_isiK (K := K) rfl) (by rfl) T.z_isinstance b_isinstance (pa_cons (pv 0) (pa_cons (pe_bltn (v := .ty _) (by rfl) T.z_list b_list rfl) pa_nil))))) (pw_or1 (pt_cmpR op_gt (pv 1) (pe_glob (v := .int _) (by rfl) T.c_MOST_DEEP.choose_spec ⟨_, rfl⟩) (nomark _)))))
    (pss_one (ps_rz T.x_BadTree rfl (by decide))) pss_nil)
    (pss_cons (ps_set (i := 2) sc_signs_of.nd rfl (.inl rfl) (pe_lst (pa_cons pe_str pa_nil)))
    (pss_cons (ps_for (passes_of rfl) rfl (pi_listK (K := K) rfl (pv 0)) (pg_name (i := 3) sc_signs_of.nd rfl (.inl rfl))
    (pss_cons (ps_expr (pe_bmK (K := K) rfl F.plainAttrs_list F.slot_list_extend F.type_list_extend mt_extend (pv 2) (pa_cons (pe_callS ih (hr.mono (Nat.le_refl _)) (by rfl) T.g_signs_of T.F_signs_of.kp T.B_signs_of psE (pa_cons (pv 3) (pa_cons (pe_op op_add (pv 1) pe_int) pa_nil))) pa_nil) (by rfl) (by rfl) (by rfl) (by rfl) (by rfl)))
    (pss_one (ps_if (pt_cmpR op_gt (pe_callB (call_len_seqK (K := K) rfl) (by rfl) T.z_len b_len (pa_cons (pv 2) pa_nil)) (pe_op op_mul pe_int (pe_glob (v := .int _) (by rfl) T.c_MOST_NODES.choose_spec ⟨_, rfl⟩)) (nomark _))
    (pss_one (ps_rz T.x_BadTree rfl (by decide))) pss_nil))))
    (pss_cons (ps_expr (pe_bmK (K := K) rfl F.plainAttrs_list F.slot_list_append F.type_list_append mt_append (pv 2) (pa_cons pe_str pa_nil) (by rfl) (by rfl) (by rfl) (by rfl) (by rfl)))
    (pss_one (ps_ret (pv 2))))))), ?_⟩
      refine ⟨_, rfl, isi_list ho (fun cs ec => ?_) fun e => ?_⟩
      rotate_left
      · subst e
        exact ⟨_, rfl, iteT (q2 rfl H .refl)⟩
      subst ec
      refine ⟨_, rfl, iteF ⟨_, rfl, _, _, rfl, rfl, _, rfl, ite2 (fun h1 => ?_) (fun h1 => ?_)⟩⟩
      · have h1 := of_decide_eq_true h1
        refine q2 ?_ H .refl
        show (if 200 < d then none else _) = none
        rw [if_pos (by omega)]
      have h1 : ¬ 200 < d := by simp only [decide_eq_true_eq] at h1; omega
      have es : sgn (.li cs) d = (sgnL cs (d + 1) [true]).map (· ++ [false]) := by
        show (if 200 < d then none else _) = _
        rw [if_neg h1]
      rw [es] at q1 q2
      cases ho with
      | li e hs =>
      rename_i a xs
      refine ⟨by exact (by decide : 1 ≤ sizeLine), fun p np => ?_⟩
      have np0 : Nw H p := .of np
      have x1 : Xs (tK K) H (upd H p (.lst [.str "1"])) := .new np
      have e1 : (upd H p (.lst [.str "1"])) p = some (.lst (sgV [true])) := by
        rw [upd_same]
        exact congrArg (fun z => some (HO.lst [V.str z])) sb_1
      show tSeq _ _ _ _ (upd H p (.lst [.str "1"]))
      generalize upd H p (.lst [.str "1"]) = H1 at x1 e1 ⊢
      refine ⟨_, rfl, a, rfl, ⟨_, SqL.of (x1.lst e)⟩, for_it w_list (fun i σ H' => Xs (tK K) H H' ∧ ∃ (acc : List Bool) (t : Option V), H' p = some (.lst (sgV acc)) ∧ acc.length ≤ 2000 ∧ sgnL cs (d + 1) [true] = sgnL (cs.drop i) (d + 1) acc ∧ σ = [some (.ref a), some (.int d), some (.ref p), t]) ⟨x1, [true], none, e1, by decide, by rw [List.drop_zero], rfl⟩ (fun _ _ _ _ p => SqL.of (p.1.lst e)) ?_ ?_⟩
      · intro i x σ Ha Hb hi hp hy
        obtain ⟨xa, acc, t, ea, la, sa, rfl⟩ := hp
        obtain ⟨rfl, hx⟩ := hy
        obtain ⟨c, hc, oc⟩ := hs.get hx
        have oc := xa.ob c _ oc
        have hcm := ht_mem (List.mem_of_getElem? hc)
        have hn : htL cs + 1 < n + 1 := hn
        have ed : cs.drop i = c :: cs.drop (i + 1) := by
          have hl := (List.getElem?_eq_some_iff.mp hc).1
          rw [List.drop_eq_getElem_cons hl]
          congr 1
          exact (List.getElem?_eq_some_iff.mp hc).2
        rw [ed] at sa
        have sa : sgnL cs (d + 1) [true] = (sgn c (d + 1)).bind fun s => if 2000 < (acc ++ s).length then none else sgnL (cs.drop (i + 1)) (d + 1) (acc ++ s) := sa
        refine ⟨_, rfl, .inl ⟨rfl, _, SqL.of ea⟩, _, rfl, _, rfl, _, _, rfl, rfl, x, c, d + 1, rfl, oc, by omega, by omega, fun s hsn H2 p2 x2 n2 e2 => ?_, fun hnn H2 x2 => q2 ?_ H2 (xa.trans x2)⟩
        rotate_left
        · rw [sa, hnn]
          rfl
        have ea := x2.lst ea
        rw [hsn] at sa
        have sa : sgnL cs (d + 1) [true] = if 2000 < (acc ++ s).length then none else sgnL (cs.drop (i + 1)) (d + 1) (acc ++ s) := sa
        have ls := sgn_len hsn
        have lv : ∀ l : List Bool, (sgV l).length = l.length := fun l => List.length_map ..
        refine ⟨p, p2, _, _, rfl, rfl, ea, e2, ?_, ?_⟩
        · rw [lv, lv]
          exact Nat.le_trans (show _ ≤ 4001 by omega) (by decide)
        have x3 := (xa.trans x2).mut (xs := sgV acc ++ sgV s) np0 ea
        have e3 : (upd H2 p (.lst (sgV acc ++ sgV s))) p = some (.lst (sgV (acc ++ s))) := by
          rw [upd_same]
          unfold sgV
          rw [List.map_append]
        generalize upd H2 p (.lst (sgV acc ++ sgV s)) = H3 at x3 e3 ⊢
        refine ⟨_, rfl, _, _, rfl, .inl (SqL.of e3), _, _, rfl, rfl, .inl ⟨by decide, by decide⟩, _, _, rfl, rfl, _, rfl, ite2 (fun h4 => ?_) (fun h4 => ?_)⟩
        · have h4 := of_decide_eq_true h4
          rw [lv] at h4
          refine q2 ?_ H3 x3
          rw [sa, if_pos (by omega)]
          rfl
        · simp only [decide_eq_true_eq, lv] at h4
          refine ⟨x3, acc ++ s, some x, e3, by omega, ?_, rfl⟩
          rw [sa, if_neg (by omega)]
      · intro σ Ha hp
        obtain ⟨xa, acc, t, ea, la, sa, rfl⟩ := hp
        rw [hs.len, List.drop_length] at sa
        have sa : sgnL cs (d + 1) [true] = some acc := sa
        refine ⟨_, rfl, .inl ⟨rfl, _, SqL.of ea⟩, p, _, _, rfl, rfl, ea, ?_, ?_⟩
        · unfold sgV
          rw [List.length_map]
          exact Nat.lt_of_le_of_lt la (by decide)
        refine ⟨_, rfl, q1 (acc ++ [false]) (by rw [sa]; rfl) _ p (xa.mut np0 ea) np0 ?_⟩
        rw [upd_same]
        unfold sgV
        rw [List.map_append]
        exact congrArg (fun z => some (HO.lst (_ ++ [V.str z]))) sb_0
def spBitsOf (K : PySem.W.Frag) : Sp := fun vs H Q E => ∃ (v : V) (o : Ob), vs = [v] ∧ ObAt K H v o ∧ ht o < 210 ∧
  (∀ s, sgn o 1 = some s → s.length ≤ 2000 → ∀ H', Xs (tK K) H H' → Q (.str (sb s)) H') ∧ ((∀ s, sgn o 1 = some s → 2000 < s.length) → ∀ H', Xs (tK K) H H' → E (.ref (He.ga K "BadTree")) none H')
theorem ok_bits_of (T : Tx K mg) : OkN P w K mg base ("bits_of", none) 211 ["tree"] (spBitsOf K) := by
  refine T.F_bits_of.ok sc_bits_of (fun vs H Q E h => ?_) (fun cdv A outer s H vs Q E hr h => ?_)
  · obtain ⟨v, o, rfl, _⟩ := h
    rfl
  · obtain ⟨v, o, rfl, ho, hh, q1, q2⟩ := h
    refine ⟨_, (pss_cons (ps_set (i := 1) sc_bits_of.nd rfl (.inl rfl) (pe_callS (ok_signs_of T 210) (hr.mono (by decide)) (by rfl) T.g_signs_of T.F_signs_of.kp T.B_signs_of psE (pa_cons (pv 0) (pa_cons pe_int pa_nil))))
    (pss_cons (ps_if (pt_cmpR op_gt (pe_callB (call_len_seqK (K := K) rfl) (by rfl) T.z_len b_len (pa_cons (pv 1) pa_nil)) (pe_op op_mul pe_int (pe_glob (v := .int _) (by rfl) T.c_MOST_NODES.choose_spec ⟨_, rfl⟩)) (nomark _))
    (pss_one (ps_rz T.x_BadTree rfl (by decide))) pss_nil)
    (pss_one (ps_ret (pe_joinK (K := K) rfl pe_str (pv 1) (by rfl) (by rfl) (by rfl)))))), ?_⟩
    refine ⟨_, rfl, v, o, 1, rfl, ho, hh, by decide, fun s hs H1 p x1 n1 e1 => ?_, fun hs H1 x1 => q2 (fun s h => absurd (hs.symm.trans h) (by simp)) H1 x1⟩
    have lv : (sgV s).length = s.length := List.length_map ..
    have ls := sgn_len hs
    refine ⟨_, rfl, _, _, rfl, .inl (SqL.of e1), _, _, rfl, rfl, .inl ⟨by decide, by decide⟩, _, _, rfl, rfl, _, rfl, ite2 (fun h => ?_) (fun h => ?_)⟩
    · have h := of_decide_eq_true h
      rw [lv] at h
      exact q2 (fun s' hs' => by rw [hs] at hs'; cases hs'; omega) H1 x1
    · simp only [decide_eq_true_eq, lv] at h
      refine ⟨⟨_, rfl⟩, _, rfl, S [], p, (s.map fun b => [b]).map sb, rfl, rfl, .inl (SqL.of (by rw [e1, List.map_map, List.map_map]; rfl)), ?_, ?_⟩
      · rw [sum_len, S_len, ← List.length_flatten, List.length_map, List.length_map]
        rw [flat_one]
        simp only [List.length_nil, Nat.mul_zero, Nat.add_zero]
        omega
      · rw [show S [] = sb [] from rfl, join_sb, flat_one]
        exact q1 s hs (by omega) H1 x1
def spLBits (K : PySem.W.Frag) (n : Nat) : Sp := fun vs H Q E => ∃ (v : V) (o : Ob), vs = [v] ∧ ObAt K H v o ∧ isT o = true ∧ ht o < n ∧ (btT o).length ≤ 10000 ∧ ∀ H', Xs (tK K) H H' → Q (.str (sb (btT o))) H'
theorem ok__law_bits_of (T : Tx K mg) : ∀ n, OkN P w K mg base ("_law_bits_of", none) n ["_law_tree_here"] (spLBits K n)
  | 0 => ⟨fun vs H Q E h => by obtain ⟨v, o, rfl, _⟩ := h; rfl, fun A outer s H args us vs Q E _ _ _ _ h => by obtain ⟨v, o, _, _, _, h, _⟩ := h; omega⟩
  | n + 1 => by
    have ih := ok__law_bits_of T n
    refine T.F__law_bits_of.ok sc__law_bits_of (fun vs H Q E h => ?_) (fun cdv A outer s H vs Q E hr h => ?_)
    · obtain ⟨v, o, rfl, _⟩ := h
      rfl
    · obtain ⟨v, o, rfl, ho, hT, hn, hl, q⟩ := h
      refine ⟨_, (pss_cons (ps_set (i := 1) sc__law_bits_of.nd rfl (.inl rfl) (pe_lst (pa_cons pe_str pa_nil)))
    (pss_cons (ps_for (passes_of rfl) rfl (pi_listK (K := K) rfl (pv 0)) (pg_name (i := 2) sc__law_bits_of.nd rfl (.inl rfl))
    (pss_one (ps_expr (pe_bmK (K := K) rfl F.plainAttrs_list F.slot_list_append F.type_list_append mt_append (pv 1) (pa_cons (pe_callS ih (hr.mono (Nat.le_refl _)) (by rfl) T.g__law_bits_of T.F__law_bits_of.kp T.B__law_bits_of psE (pa_cons (pv 2) pa_nil)) pa_nil) (by rfl) (by rfl) (by rfl) (by rfl) (by rfl)))))
    (pss_one (ps_ret (pe_op op_add_str (pe_joinK (K := K) rfl pe_str (pv 1) (by rfl) (by rfl) (by rfl)) pe_str))))), ?_⟩
      cases ho with
      | no h => cases hT
      | li e hs =>
      rename_i a xs cs
      have hn : htL cs + 1 < n + 1 := hn
      have hT : isTL cs = true := hT
      have hl : (true :: (btL cs ++ [false])).length ≤ 10000 := hl
      rw [List.length_cons, List.length_append] at hl
      have hl : (btL cs).length + 2 ≤ 10000 := hl
      have hcnt := btL_count cs hT
      refine ⟨by exact (by decide : 1 ≤ sizeLine), fun p np => ?_⟩
      have np0 : Nw H p := .of np
      have x1 : Xs (tK K) H (upd H p (.lst [.str "1"])) := .new np
      have e1 : (upd H p (.lst [.str "1"])) p = some (.lst (([true] :: (cs.take 0).map btT).map fun l => .str (sb l))) := by
        rw [upd_same]
        exact congrArg (fun z => some (HO.lst [V.str z])) sb_1
      show tSeq _ _ _ _ (upd H p (.lst [.str "1"]))
      generalize upd H p (.lst [.str "1"]) = H1 at x1 e1 ⊢
      refine ⟨_, rfl, a, rfl, ⟨_, SqL.of (x1.lst e)⟩, for_it w_list (fun i σ H' => Xs (tK K) H H' ∧ H' p = some (.lst (([true] :: (cs.take i).map btT).map fun l => .str (sb l))) ∧ ∃ t, σ = [some (.ref a), some (.ref p), t]) ⟨x1, e1, none, rfl⟩ (fun _ _ _ _ p => SqL.of (p.1.lst e)) ?_ ?_⟩
      · intro i x σ Ha Hb hi hp hy
        obtain ⟨xa, ea, t, rfl⟩ := hp
        obtain ⟨rfl, hx⟩ := hy
        obtain ⟨c, hc, oc⟩ := hs.get hx
        have oc := xa.ob c _ oc
        have hcm := List.mem_of_getElem? hc
        have hh := ht_mem hcm
        have hb := btL_mem hcm
        have hlt := (List.getElem?_eq_some_iff.mp hc).1
        refine ⟨_, rfl, .inl ⟨rfl, _, SqL.of ea⟩, _, rfl, x, c, rfl, oc, isTL_mem hT hcm, by omega, by omega, fun H2 x2 => ?_⟩
        have ea := x2.lst ea
        refine ⟨p, _, _, rfl, rfl, ea, ?_, (xa.trans x2).mut np0 ea, ?_, some x, rfl⟩
        · rw [List.length_map, List.length_cons, List.length_map, List.length_take]
          exact Nat.lt_of_lt_of_le (show _ < 10001 by omega) (by decide)
        · rw [upd_same, List.take_add_one, hc]
          show some (HO.lst _) = some (HO.lst _)
          rw [List.map_append, List.map_cons, List.map_cons, List.map_append]
          rfl
      · intro σ Ha hp
        obtain ⟨xa, ea, t, rfl⟩ := hp
        rw [hs.len, List.take_length] at ea
        have efl : ([true] :: cs.map btT).flatten = true :: btL cs := by
          rw [List.flatten_cons, ← btL_eq]
          rfl
        refine ⟨⟨_, rfl⟩, _, rfl, S [], p, ([true] :: cs.map btT).map sb, rfl, rfl, .inl (SqL.of (by rw [ea, List.map_map]; rfl)), ?_, ?_⟩
        · rw [sum_len, S_len, ← List.length_flatten, efl, List.length_cons]
          simp only [List.length_nil, Nat.mul_zero, Nat.add_zero]
          omega
        · rw [show S [] = sb [] from rfl, join_sb, efl]
          refine ⟨_, _, rfl, rfl, ?_, ?_⟩
          · rw [sb_0, sb_len, sb_len, List.length_cons]
            exact Nat.le_trans (show (btL cs).length + 1 + 1 ≤ 10000 by omega) (by decide)
          · rw [sb_0, sb_app]
            exact q Ha xa
def spNeedTree (K : PySem.W.Frag) : Sp := fun vs H Q E => ∃ (z : Str), vs = [.str z] ∧ z.length ≤ 100000 ∧ (∀ l, z = sb l → okT l → l.length ≤ 2000 → ∀ H', Xs (tK K) H H' → Q .non H') ∧ ((∀ l, z = sb l → okT l → 2000 < l.length) → ∀ H', Xs (tK K) H H' → E (.ref (He.ga K "BadBits")) none H')
theorem ok_need_tree (T : Tx K mg) : OkN P w K mg base ("need_tree", none) 2 ["bits"] (spNeedTree K) := by
  refine T.F_need_tree.ok sc_need_tree (fun vs H Q E h => ?_) (fun cdv A outer s H vs Q E hr h => ?_)
  · obtain ⟨z, rfl, _⟩ := h
    rfl
  · obtain ⟨z, rfl, hz, q1, q2⟩ := h
    refine ⟨_, (pss_cons (ps_expr (pe_callS (ok_need_bits T) (hr.mono (by decide)) (by rfl) T.g_need_bits T.F_need_bits.kp T.B_need_bits psE (pa_cons (pv 0) pa_nil)))
    (pss_cons (ps_set (i := 1) sc_need_tree.nd rfl (.inl rfl) pe_int)
    (pss_cons (ps_for (passes_of rfl) rfl (pi_enumSK (K := K) rfl (by rfl) T.z_enumerate (pa_cons (pv 0) pa_nil) (by rfl)) (pg_tupK (K := K) (n := 2) rfl rfl (pgs_cons (pg_name (i := 2) sc_need_tree.nd rfl (.inl rfl)) (pgs_cons (pg_name (i := 3) sc_need_tree.nd rfl (.inl rfl)) pgs_nil)) (by rfl) (by rfl))
    (pss_cons (ps_set (i := 1) sc_need_tree.nd rfl (.inl rfl) (pe_op op_sub (pe_op op_add (pv 1) (pe_op op_mul pe_int (pe_callTy call_int_str (by rfl) T.z_int b_int (pa_cons (pv 3) pa_nil)))) pe_int))
    (pss_one (ps_if (PW.pt (pw_or (pt_cmpR op_gt (pv 1) (pe_glob (v := .int _) (by rfl) T.c_MOST_DEEP.choose_spec ⟨_, rfl⟩) (nomark _)) (pw_or1 (PW.pt (pw_and (pt_cmpR op_lt (pv 1) pe_int (nomark _)) (pw_and1 (pt_cmpR op_lt (pv 2) (pe_op op_sub (pe_callB call_len_str (by rfl) T.z_len b_len (pa_cons (pv 0) pa_nil)) pe_int) (nomark _))))))))
    (pss_one (ps_rz T.x_BadBits rfl (by decide))) pss_nil))))
    (pss_one (ps_if (PW.pt (pw_or (pt_cmpR op_ne (pv 1) pe_int (nomark _)) (pw_or (pt_cmpR op_eq (pv 0) pe_str (nomark _)) (pw_or1 (pt_cmpR op_gt (pe_callB call_len_str (by rfl) T.z_len b_len (pa_cons (pv 0) pa_nil)) (pe_op op_mul pe_int (pe_glob (v := .int _) (by rfl) T.c_MOST_NODES.choose_spec ⟨_, rfl⟩)) (nomark _))))))
    (pss_one (ps_rz T.x_BadBits rfl (by decide))) pss_nil))))), ?_⟩
    refine ⟨_, rfl, z, rfl, hz, fun hb H1 x1 => ?_, fun hb H1 x1 => q2 (fun l e => absurd ⟨l, e⟩ hb) H1 x1⟩
    obtain ⟨l, rfl⟩ := hb
    have hl : l.length ≤ 100000 := by rw [sb_len] at hz; exact hz
    have hzl : (sb l).length ≤ sizeLine := Nat.le_trans hz (by decide)
    have bad : (okT l → 2000 < l.length) → ∀ H', Xs (tK K) H H' → E (.ref (He.ga K "BadBits")) none H' := fun h => q2 fun l' e => by rw [← sb_inj e]; exact h
    have ll : (l.map bc).length = l.length := List.length_map ..
    refine ⟨_, rfl, _, rfl, for_it w_enumS (fun i σ H' => Xs (tK K) H H' ∧ (∀ j, j ≤ i → dp (l.take j) ≤ 200) ∧ (∀ j, 0 < j → j ≤ i → j < l.length → 1 ≤ dp (l.take j)) ∧ ∃ t u, σ = [some (.str (sb l)), some (.int (dp (l.take i))), t, u]) ⟨x1, fun j hj => by rw [show j = 0 by omega]; exact (by decide : (0 : Int) ≤ 200), fun j h1 h2 => by omega, none, none, rfl⟩ (fun _ _ _ _ _ => trivial) ?_ ?_⟩
    · intro i x σ Ha Hb hi hp hy
      obtain ⟨xa, h1, h2, t, u, rfl⟩ := hp
      obtain ⟨Ta, c, rfl, hn, rfl, hc⟩ := hy
      rw [List.getElem?_map] at hc
      obtain ⟨b, hb, rfl⟩ := Option.map_eq_some_iff.mp hc
      have xb := xa.trans (.new (o := .tup [.int (i : Nat), .str (S [bc b])]) hn)
      have hlt := (List.getElem?_eq_some_iff.mp hb).1
      have ed : dp (l.take (i + 1)) = dp (l.take i) + 2 * (b.toNat : Int) - 1 := by rw [List.take_add_one, hb]; exact dp_snoc _ _
      refine ⟨Ta, _, rfl, .inl (.inl (upd_same ..)), rfl, _, _, rfl, _, _, rfl, rfl, ?_⟩
      refine ⟨_, rfl, _, rfl, _, _, rfl, int_bit b, by rw [S_len]; exact (by decide : 1 ≤ 640), _, _, rfl, rfl, .inl ⟨by decide, by decide⟩, _, _, rfl, rfl, _, _, rfl, rfl, ?_⟩
      show gName 1 (V.int (dp (l.take i) + 2 * (b.toNat : Int) - 1)) _ _ _
      rw [← ed]
      have next : dp (l.take (i + 1)) ≤ 200 → (i + 1 < l.length → 1 ≤ dp (l.take (i + 1))) → (∀ j, j ≤ i + 1 → dp (l.take j) ≤ 200) ∧ (∀ j, 0 < j → j ≤ i + 1 → j < l.length → 1 ≤ dp (l.take j)) := fun n1 n2 => by
        refine ⟨fun j hj => ?_, fun j hj0 hj hjl => ?_⟩
        · by_cases e : j = i + 1
          · rw [e]; exact n1
          · exact h1 j (by omega)
        · by_cases e : j = i + 1
          · rw [e] at hjl ⊢; exact n2 hjl
          · exact h2 j hj0 (by omega) hjl
      refine ⟨_, rfl, _, _, rfl, rfl, _, rfl, ite2 (fun h3 => ?_) (fun h3 => ?_)⟩
      · have h3 := of_decide_eq_true h3
        refine iteT (bad (fun ok => ?_) _ xb)
        have := ok.top (i + 1) (by omega)
        omega
      · have h3 : dp (l.take (i + 1)) ≤ 200 := by simp only [decide_eq_true_eq] at h3; omega
        refine ⟨_, rfl, _, _, rfl, rfl, _, rfl, ite2 (fun h4 => ?_) (fun h4 => ?_)⟩
        · have h4 := of_decide_eq_true h4
          refine ⟨_, rfl, _, rfl, _, rfl, hzl, _, _, rfl, rfl, _, _, rfl, rfl, _, rfl, ite2 (fun h5 => ?_) (fun h5 => ?_)⟩
          · have h5 := of_decide_eq_true h5
            rw [sb_len] at h5
            refine bad (fun ok => ?_) _ xb
            have := ok.mid (i + 1) (by omega) (by omega)
            omega
          · simp only [decide_eq_true_eq, sb_len] at h5
            obtain ⟨n1, n2⟩ := next h3 (by omega)
            exact ⟨xb, n1, n2, some (.int (i : Nat)), some (.str (S [bc b])), rfl⟩
        · simp only [decide_eq_true_eq] at h4
          obtain ⟨n1, n2⟩ := next h3 (by omega)
          exact iteF ⟨xb, n1, n2, some (.int (i : Nat)), some (.str (S [bc b])), rfl⟩
    · intro σ Ha hp
      obtain ⟨xa, h1, h2, t, u, rfl⟩ := hp
      rw [ll, List.take_length] at *
      refine ⟨_, rfl, rfl, _, rfl, ite2 (fun h3 => ?_) (fun h3 => ?_)⟩
      · refine iteT (bad (fun ok => ?_) _ xa)
        rw [ok.fin] at h3
        simp at h3
      have h3 : dp l = 0 := by
        by_cases e : dp l = 0
        · exact e
        · exact absurd (by rw [decide_eq_false (fun z => e (V.int.inj z))]; rfl) h3
      refine ⟨_, rfl, rfl, _, rfl, ite2 (fun h4 => ?_) (fun h4 => ?_)⟩
      · refine iteT (bad (fun ok => ?_) _ xa)
        have h4 := V.str.inj (of_decide_eq_true h4)
        exact absurd (sb_inj (h4.trans sb_nil)) ok.ne
      have hne : l ≠ [] := fun z => h4 (decide_eq_true (by rw [z, sb_nil]))
      refine ⟨_, rfl, _, rfl, hzl, _, _, rfl, rfl, .inl ⟨by decide, by decide⟩, _, _, rfl, rfl, _, rfl, ite2 (fun h5 => ?_) (fun h5 => ?_)⟩
      · have h5 := of_decide_eq_true h5
        rw [sb_len] at h5
        exact bad (fun _ => by omega) _ xa
      · simp only [decide_eq_true_eq, sb_len] at h5
        exact q1 l rfl ⟨hne, fun i hi hil => h2 i hi (by omega) hil, h3, h1⟩ (by omega) Ha xa
def spTreeOf (K : PySem.W.Frag) : Sp := fun vs H Q E => ∃ (z : Str), vs = [.str z] ∧ z.length ≤ 100000 ∧ (∀ l, z = sb l → okT l → l.length ≤ 2000 → ∀ H' v f, Xs (tK K) H H' → ObAt K H' v (.li f) → isTL f = true → btT (.li f) = l → Q v H') ∧ ((∀ l, z = sb l → okT l → 2000 < l.length) → ∀ H', Xs (tK K) H H' → E (.ref (He.ga K "BadBits")) none H')
theorem ok_tree_of (T : Tx K mg) : OkN P w K mg base ("tree_of", none) 3 ["bits"] (spTreeOf K) := by
  refine T.F_tree_of.ok sc_tree_of (fun vs H Q E h => ?_) (fun cdv A outer s H vs Q E hr h => ?_)
  · obtain ⟨z, rfl, _⟩ := h
    rfl
  · obtain ⟨z, rfl, hz, q1, q2⟩ := h
    refine ⟨_, (pss_cons (ps_expr (pe_callS (ok_need_tree T) (hr.mono (by decide)) (by rfl) T.g_need_tree T.F_need_tree.kp T.B_need_tree psE (pa_cons (pv 0) pa_nil)))
    (pss_cons (ps_set (i := 1) sc_tree_of.nd rfl (.inl rfl) (pe_lst (pa_cons (pe_lst pa_nil) pa_nil)))
    (pss_cons (ps_for (passes_of rfl) rfl (pi_str (pv 0)) (pg_name (i := 2) sc_tree_of.nd rfl (.inl rfl))
    (pss_one (ps_if (pt_cmpR op_eq (pv 2) pe_str (nomark _))
    (pss_one (ps_expr (pe_bmK (K := K) rfl F.plainAttrs_list F.slot_list_append F.type_list_append mt_append (pv 1) (pa_cons (pe_lst pa_nil) pa_nil) (by rfl) (by rfl) (by rfl) (by rfl) (by rfl)))) (pss_cons (ps_set (i := 3) sc_tree_of.nd rfl (.inl rfl) (pe_bm0K (K := K) rfl F.plainAttrs_list F.slot_list_pop F.type_list_pop mt_pop (pv 1) (by rfl) (by rfl)))
    (pss_one (ps_expr (pe_bmK (K := K) rfl F.plainAttrs_list F.slot_list_append F.type_list_append mt_append (pe_ix (ix_listK (K := K) rfl) (pv 1) (pe_un un_neg pe_int) (fun _ _ => rfl)) (pa_cons (pv 3) pa_nil) (by rfl) (by rfl) (by rfl) (by rfl) (by rfl))))))))
    (pss_one (ps_ret (pe_ix (ix_listK (K := K) rfl) (pe_ix (ix_listK (K := K) rfl) (pv 1) pe_int (fun _ _ => rfl)) pe_int (fun _ _ => rfl))))))), ?_⟩
    refine ⟨_, rfl, z, rfl, hz, fun l e ok hl2 H1 x1 => ?_, fun hb H1 x1 => q2 hb H1 x1⟩
    subst e
    refine ⟨by decide, fun p0 n0 => ⟨by exact (by decide : 1 ≤ sizeLine), fun R nR => ?_⟩⟩
    have x2 : Xs (tK K) H (upd (upd H1 p0 (.lst [])) R (.lst [.ref p0])) := x1.trans ((Xs.new n0).trans (.new nR))
    have hp0R : p0 ≠ R := fun z => by rw [← z, upd_same] at nR; cases nR
    have st0 : StkAt (upd (upd H1 p0 (.lst [])) R (.lst [.ref p0])) R [p0] [[]] := ⟨upd_same .., by simp [Ne.symm hp0R], rfl, fun j a f ha hf => by
      cases j with
      | zero =>
        cases ha
        cases hf
        exact ⟨[], by rw [upd_ne hp0R, upd_same], .nil⟩
      | succ j => cases ha⟩
    have nw0 : ∀ a ∈ R :: [p0], Nw H a := fun a ha => by
      rcases List.mem_cons.mp ha with rfl | ha
      · exact (x1.trans (.new n0)).nw (.of nR)
      · have : a = p0 := by simpa using ha
        exact this ▸ x1.nw (.of n0)
    have ll : (l.map bc).length = l.length := List.length_map ..
    refine ⟨_, rfl, _, rfl, for_it w_str (fun i σ H' => Xs (tK K) H H' ∧ ∃ (as : List Addr) (fs : List (List Ob)) (t u : Option V), StkAt H' R as fs ∧ (∀ a ∈ R :: as, Nw H a) ∧ rawF fs = true :: l.take i ∧ (fs.length : Int) = dp (l.take i) + 1 ∧ (i < l.length → fs[0]? = some []) ∧ (i = l.length → ∃ f, fs = [[.li f]]) ∧ σ = [some (.str (sb l)), some (.ref R), t, u]) ⟨x2, [p0], [[]], none, none, st0, nw0, rfl, rfl, fun _ => rfl, fun h => absurd (List.eq_nil_of_length_eq_zero h.symm) ok.ne, rfl⟩ (fun _ _ _ _ _ => trivial) ?_ ?_⟩
    · intro i x σ Ha Hb hi hp hy
      obtain ⟨xa, as, fs, t, u, sa, nw, hraw, hdp, hh, _, rfl⟩ := hp
      obtain ⟨rfl, c, hc, rfl⟩ := hy
      rw [List.getElem?_map] at hc
      obtain ⟨b, hb, rfl⟩ := Option.map_eq_some_iff.mp hc
      have hlt := (List.getElem?_eq_some_iff.mp hb).1
      have et : l.take (i + 1) = l.take i ++ [b] := by rw [List.take_add_one, hb]; rfl
      have ed : dp (l.take (i + 1)) = dp (l.take i) + 2 * (b.toNat : Int) - 1 := by rw [et]; exact dp_snoc _ _
      have hfl : i + 1 = l.length → dp (l.take (i + 1)) = 0 := fun h => by rw [h, List.take_length]; exact ok.fin
      have hh := hh hlt
      have hlen1 : 0 < fs.length := (List.getElem?_eq_some_iff.mp hh).1
      have e1s : (Str.ofString "1" : Str) = S [bc true] := by decide +kernel
      have eb : decide (V.str (S [bc b]) = V.str "1") = b := by rw [e1s]; cases b <;> decide +kernel
      have hraw2 : (rawF fs).length = i + 1 := by rw [hraw, List.length_cons, List.length_take]; omega
      cases b with
      | true =>
        have hnl : i + 1 < l.length := by
          apply Nat.lt_of_le_of_ne hlt
          intro e
          have := hfl e
          have e2 : ((true : Bool).toNat : Int) = 1 := rfl
          rw [e2] at ed
          omega
        refine ⟨_, rfl, rfl, _, rfl, ite2 (fun _ => ?_) (fun h => absurd eb h)⟩
        refine ⟨_, rfl, .inl ⟨rfl, _, SqL.of sa.rows⟩, by decide, fun p np => ?_⟩
        have hRp : R ≠ p := fun z => by rw [← z, sa.rows] at np; cases np
        have s2 := sa.push np
        refine ⟨R, _, _, rfl, rfl, by rw [upd_ne hRp]; exact sa.rows, ?_, ?_⟩
        · rw [List.length_map, sa.len]
          have : (fs.length : Int) ≤ 201 := by have := ok.top i (by omega); omega
          exact Nat.lt_of_le_of_lt (show fs.length ≤ 201 by omega) (by decide)
        refine ⟨(xa.trans (.new np)).mut (nw R List.mem_cons_self) (by rw [upd_ne hRp]; exact sa.rows), as ++ [p], fs ++ [[]], some (.str (S [bc true])), u, s2, fun a ha => ?_, ?_, ?_, fun _ => ?_, fun e => by omega, rfl⟩
        · rcases List.mem_cons.mp ha with rfl | ha
          · exact nw _ List.mem_cons_self
          · rcases List.mem_append.mp ha with ha | ha
            · exact nw a (List.mem_cons_of_mem _ ha)
            · have : a = p := by simpa using ha
              exact this ▸ xa.nw (.of np)
        · rw [rawF_push, hraw, et]
          rfl
        · rw [ed, List.length_append]
          show ((fs.length + 1 : Nat) : Int) = _
          have e2 : ((true : Bool).toNat : Int) = 1 := rfl
          rw [e2]
          omega
        · rw [List.getElem?_append_left hlen1]
          exact hh
      | false =>
        have e2 : ((false : Bool).toNat : Int) = 0 := rfl
        rw [e2] at ed
        have hdp1 : 1 ≤ dp (l.take i) := by
          rcases Nat.eq_zero_or_pos i with h0 | h0
          · exfalso
            subst h0
            have h5 : dp (l.take 0) = 0 := rfl
            by_cases h6 : 1 < l.length
            · have : 1 ≤ dp (l.take (0 + 1)) := ok.mid 1 (by decide) h6
              omega
            · have := hfl (by omega)
              omega
          · exact ok.mid i h0 hlt
        obtain ⟨F2, f, rfl⟩ : ∃ F f, fs = F ++ [f] := ⟨fs.dropLast, fs.getLast (fun z => by subst z; simp at hlen1), (List.dropLast_concat_getLast _).symm⟩
        have hF2 : 0 < F2.length := by rw [List.length_append] at hdp; have : ((F2.length + 1 : Nat) : Int) = dp (l.take i) + 1 := hdp; omega
        obtain ⟨F, g, rfl⟩ : ∃ G g, F2 = G ++ [g] := ⟨F2.dropLast, F2.getLast (fun z => by subst z; simp at hF2), (List.dropLast_concat_getLast _).symm⟩
        have hal := sa.len
        rw [List.length_append, List.length_append] at hal
        have hal : as.length = F.length + 1 + 1 := hal
        obtain ⟨A2, a, rfl⟩ : ∃ A a, as = A ++ [a] := ⟨as.dropLast, as.getLast (fun z => by subst z; simp at hal), (List.dropLast_concat_getLast _).symm⟩
        have hA2 : A2.length = F.length + 1 := by rw [List.length_append] at hal; exact Nat.succ.inj hal
        obtain ⟨A1, b1, rfl⟩ : ∃ A a, A2 = A ++ [a] := ⟨A2.dropLast, A2.getLast (fun z => by subst z; simp at hA2), (List.dropLast_concat_getLast _).symm⟩
        have hA1 : A1.length = F.length := by rw [List.length_append] at hA2; exact Nat.succ.inj hA2
        refine ⟨_, rfl, rfl, _, rfl, ite2 (fun h => absurd (eb.symm.trans h) (by decide)) (fun _ => ?_)⟩
        obtain ⟨vb, hb1, hbR, s2⟩ := sa.pop hA1
        have erows := sa.rows
        rw [List.map_append, List.map_append] at erows
        have hbm : b1 ∈ R :: ((A1 ++ [b1]) ++ [a]) := List.mem_cons_of_mem _ (List.mem_append_left _ (List.mem_append_right _ List.mem_cons_self))
        refine ⟨_, rfl, .inl ⟨rfl, _, SqL.of erows⟩, R, _, .ref a, rfl, rfl, erows, ?_, ?_⟩
        · rw [List.length_append, List.length_append, List.getElem?_append_right (by simp)]
          simp
        have edl : (A1.map V.ref ++ [b1].map V.ref ++ [a].map V.ref).dropLast = (A1 ++ [b1]).map V.ref := by
          rw [List.map_append]
          exact List.dropLast_concat
        have x1R := xa.mut (xs := (A1 ++ [b1]).map V.ref) (nw R List.mem_cons_self) erows
        rw [edl]
        have hb2 : (upd Hb R (.lst ((A1 ++ [b1]).map V.ref))) b1 = some (.lst vb) := by rw [upd_ne hbR]; exact hb1
        have hR2 : (upd Hb R (.lst ((A1 ++ [b1]).map V.ref))) R = some (.lst ((A1 ++ [b1]).map V.ref)) := upd_same ..
        refine ⟨_, rfl, _, rfl, R, _, -1, .ref b1, rfl, rfl, SqL.of hR2, by rw [List.map_append]; exact atI_last _ _, .inl ⟨rfl, _, SqL.of hb2⟩, _, rfl, b1, _, _, rfl, rfl, hb2, ?_, x1R.mut (nw b1 hbm) hb2, A1 ++ [b1], F ++ [g ++ [.li f]], some (.str (S [bc false])), some (.ref a), s2, fun c hc => nw c ?_, ?_, ?_, fun hn => ?_, fun hn => ?_, rfl⟩
        · have eb1 : ((A1 ++ [b1]) ++ [a])[A1.length]? = some b1 := by rw [List.append_assoc, List.getElem?_append_right (Nat.le_refl _), Nat.sub_self]; rfl
          have eg1 : ((F ++ [g]) ++ [f])[A1.length]? = some g := by rw [hA1, List.append_assoc, List.getElem?_append_right (Nat.le_refl _), Nat.sub_self]; rfl
          obtain ⟨v2, h8, h9⟩ := sa.row _ _ _ eb1 eg1
          rw [hb1] at h8
          have h8 : vb = v2 := by
            injection h8 with h8
            injection h8
          obtain ⟨h10, h11⟩ := ObsAv.at (K := K) g v2 h9
          have h12 := btL_count g h11
          rw [rawF_app, rawF_app, rawF_one, List.length_append, List.length_append, List.length_cons] at hraw2
          rw [h8, h10.len]
          exact Nat.lt_of_le_of_lt (show g.length ≤ 2001 by omega) (by decide)
        · rcases List.mem_cons.mp hc with rfl | hc
          · exact List.mem_cons_self
          · exact List.mem_cons_of_mem _ (List.mem_append_left _ hc)
        · rw [rawF_pop, hraw, et]
          rfl
        · rw [ed, List.length_append]
          rw [List.length_append, List.length_append] at hdp
          show ((F.length + 1 : Nat) : Int) = _
          have : ((F.length + 1 + 1 : Nat) : Int) = dp (l.take i) + 1 := hdp
          omega
        · have h7 := ok.mid (i + 1) (by omega) hn
          rw [List.length_append, List.length_append] at hdp
          have : ((F.length + 1 + 1 : Nat) : Int) = dp (l.take i) + 1 := hdp
          have hF : 0 < F.length := by omega
          rw [List.append_assoc, List.getElem?_append_left hF] at hh
          rw [List.getElem?_append_left hF]
          exact hh
        · have h7 := hfl hn
          rw [List.length_append, List.length_append] at hdp
          have : ((F.length + 1 + 1 : Nat) : Int) = dp (l.take i) + 1 := hdp
          have hF : F = [] := List.eq_nil_of_length_eq_zero (by omega)
          subst hF
          have hg : g = [] := by
            have : some g = some [] := hh
            exact Option.some.inj this
          subst hg
          exact ⟨f, rfl⟩
    · intro σ Ha hp
      obtain ⟨xa, as, fs, t, u, sa, nw, hraw, hdp, _, hh, rfl⟩ := hp
      obtain ⟨f, rfl⟩ := hh ll
      have hal : as.length = 1 := sa.len
      obtain ⟨a0, rfl⟩ : ∃ a0, as = [a0] := by
        match as, hal with
        | [a0], _ => exact ⟨a0, rfl⟩
      obtain ⟨vs, h1, h2⟩ := sa.row 0 a0 _ rfl rfl
      cases h2 with
      | cons h3 h4 =>
      cases h4
      obtain ⟨h5, h6⟩ := ObAv.at (K := K) _ _ h3
      rw [rawF_one, ll, List.take_length] at hraw
      have hbt : btT (.li f) = l := by
        have := List.cons.inj hraw
        rw [← this.2]
        show btT (.li f) = btT (.li f) ++ []
        rw [List.append_nil]
      exact ⟨_, rfl, R, _, 0, .ref a0, rfl, rfl, SqL.of sa.rows, atI_nat (j := 0) rfl, a0, _, 0, _, rfl, rfl, SqL.of h1, atI_nat (j := 0) rfl, q1 l rfl ok hl2 Ha _ f xa h5 h6 hbt⟩
end
end Tw

set_option maxHeartbeats 4000000
namespace Tw
open PySem PySem.Spec PyProof.Rows L2 LamX
section
variable {P : Program} {w : World} {K : PySem.W.Frag} {mg : Str → Option Value} {base : Heap}
def spLTree (K : PySem.W.Frag) : Sp := fun vs H Q E => ∃ (m : Int) (n : Nat), vs = [.int m, .int n] ∧ 0 ≤ m ∧ 1 ≤ n ∧ n ≤ 100 ∧ ∀ H' v o, Xt (tK K) H H' → ObAt K H' v o → (∃ cs, o = .li cs) → isT o = true → (btT o).length = 2 * n → ht o ≤ n → Q v H'
theorem ok__law_tree (T : Tx K mg) : OkN P w K mg base ("_law_tree", none) 2 ["_law_more", "_law_many"] (spLTree K) := by
  refine T.F__law_tree.ok sc__law_tree (fun vs H Q E h => ?_) (fun cdv A outer s H vs Q E hr h => ?_)
  · obtain ⟨m, n, rfl, _⟩ := h
    rfl
  · obtain ⟨m, n, rfl, hm0, hn1, hn, q⟩ := h
    refine ⟨_, (pss_cons (ps_set (i := 2) sc__law_tree.nd rfl (.inl rfl) (pe_lst (pa_cons (pe_lst pa_nil) pa_nil)))
    (pss_cons (ps_set (i := 3) sc__law_tree.nd rfl (.inl rfl) (pe_lst (pa_cons (pe_ix (ix_listK (K := K) rfl) (pv 2) pe_int (fun _ _ => rfl)) pa_nil)))
    (pss_cons (ps_set (i := 4) sc__law_tree.nd rfl (.inl rfl) (pe_lst pa_nil))
    (pss_cons (ps_for (passes_of rfl) rfl (pi_range1 (by rfl) T.z_range (pa_cons (pe_op op_sub (pv 1) pe_int) pa_nil)) (pg_name (i := 5) sc__law_tree.nd rfl (.inl rfl))
    (pss_cons (ps_set (i := 6) sc__law_tree.nd rfl (.inl rfl) (pe_callS (ok__law_drawn T) (hr.mono (by decide)) (by rfl) T.g__law_drawn T.F__law_drawn.kp T.B__law_drawn psE (pa_cons (pv 0) (pa_cons (pv 5) pa_nil))))
    (pss_cons (ps_set (i := 7) sc__law_tree.nd rfl (.inl rfl) (pe_ix (ix_listK (K := K) rfl) (pe_lst (pa_cons (pe_op op_mod (pv 6) (pe_callB (call_len_seqK (K := K) rfl) (by rfl) T.z_len b_len (pa_cons (pv 3) pa_nil))) (pa_cons (pe_op op_sub (pe_callB (call_len_seqK (K := K) rfl) (by rfl) T.z_len b_len (pa_cons (pv 3) pa_nil)) pe_int) (pa_cons pe_int (pa_cons (pe_callB (call_max2 rfl) (by rfl) T.z_max b_max (pa_cons pe_int (pa_cons (pe_op op_sub (pe_op op_sub (pe_callB (call_len_seqK (K := K) rfl) (by rfl) T.z_len b_len (pa_cons (pv 3) pa_nil)) pe_int) (pe_op op_mod (pv 6) pe_int)) pa_nil))) pa_nil))))) (pe_op op_mod (pv 0) pe_int) (fun _ _ => rfl)))
    (pss_cons (ps_set (i := 8) sc__law_tree.nd rfl (.inl rfl) (pe_lst pa_nil))
    (pss_cons (ps_expr (pe_bmK (K := K) rfl F.plainAttrs_list F.slot_list_insert F.type_list_insert mt_insert (pe_ix (ix_listK (K := K) rfl) (pv 3) (pv 7) (fun _ _ => rfl)) (pa_cons (pe_op op_mod (pe_op op_fdiv (pv 6) pe_int) (pe_op op_add (pe_callB (call_len_seqK (K := K) rfl) (by rfl) T.z_len b_len (pa_cons (pe_ix (ix_listK (K := K) rfl) (pv 3) (pv 7) (fun _ _ => rfl)) pa_nil)) pe_int)) (pa_cons (pv 8) pa_nil)) (by rfl) (by rfl) (by rfl) (by rfl) (by rfl)))
    (pss_one (ps_expr (pe_bmK (K := K) rfl F.plainAttrs_list F.slot_list_append F.type_list_append mt_append (pv 3) (pa_cons (pv 8) pa_nil) (by rfl) (by rfl) (by rfl) (by rfl) (by rfl)))))))))
    (pss_one (ps_ret (pe_ix (ix_listK (K := K) rfl) (pv 2) pe_int (fun _ _ => rfl)))))))), ?_⟩
    refine ⟨by decide, fun r nr => ⟨by exact (by decide : 1 ≤ sizeLine), fun R nR => ?_⟩⟩
    have hrR : r ≠ R := fun z => by rw [← z, upd_same] at nR; cases nR
    have x2 : Xt (tK K) H (upd (upd H r (.lst [])) R (.lst [.ref r])) := (Xt.new nr).trans (.new nR)
    have er : (upd (upd H r (.lst [])) R (.lst [.ref r])) r = some (.lst []) := by rw [upd_ne hrR, upd_same]
    have eR : (upd (upd H r (.lst [])) R (.lst [.ref r])) R = some (.lst [.ref r]) := upd_same ..
    show tSeq _ _ _ _ (upd (upd H r (.lst [])) R (.lst [.ref r]))
    generalize upd (upd H r (.lst [])) R (.lst [.ref r]) = H2 at x2 er eR ⊢
    refine ⟨_, rfl, R, _, 0, .ref r, rfl, rfl, SqL.of eR, atI_nat (j := 0) rfl, by exact (by decide : 1 ≤ sizeLine), fun N nN => ?_⟩
    have hrN : r ≠ N := fun z => by rw [← z, er] at nN; cases nN
    have hRN : R ≠ N := fun z => by rw [← z, eR] at nN; cases nN
    have x3 := x2.trans (.new (o := .lst [.ref r]) nN)
    have er3 : (upd H2 N (.lst [.ref r])) r = some (.lst []) := by rw [upd_ne hrN]; exact er
    have eR3 : (upd H2 N (.lst [.ref r])) R = some (.lst [.ref r]) := by rw [upd_ne hRN]; exact eR
    have eN3 : (upd H2 N (.lst [.ref r])) N = some (.lst ([r].map V.ref)) := upd_same ..
    have wN : Nw H N := x2.nw (.of nN)
    have wr : Nw H r := .of nr
    show tSeq _ _ _ _ (upd H2 N (.lst [.ref r]))
    generalize upd H2 N (.lst [.ref r]) = H3 at x3 er3 eR3 eN3 ⊢
    refine ⟨by decide, fun p4 n4 => ?_⟩
    have x4 := x3.trans (.new (o := .lst []) n4)
    have er4 := (Xt.new (T := tK K) (o := .lst []) n4).lst er3
    have eR4 := (Xt.new (T := tK K) (o := .lst []) n4).lst eR3
    have eN4 := (Xt.new (T := tK K) (o := .lst []) n4).lst eN3
    show tSeq _ _ _ _ (upd H3 p4 (.lst []))
    generalize upd H3 p4 (.lst []) = H4 at x4 er4 eR4 eN4 ⊢
    have ek : ((n : Int) - 1).toNat = n - 1 := by omega
    refine ⟨_, rfl, _, _, rfl, rfl, _, rfl, by omega, by omega, for_it w_range (fun i σ H' => Xt (tK K) H H' ∧ ∃ (t : AT) (ns : List Addr), AtH H' t ∧ t.root = r ∧ (addrs t).Nodup ∧ (∀ a, a ∈ ns ↔ a ∈ addrs t) ∧ ns.length = i + 1 ∧ (addrs t).length = i + 1 ∧ H' N = some (.lst (ns.map V.ref)) ∧ H' R = some (.lst [.ref r]) ∧ R ∉ addrs t ∧ N ∉ addrs t ∧ R ≠ N ∧ (∀ a ∈ addrs t, Nw H a) ∧ ∃ t5 t6 t7 t8, σ = [some (.int m), some (.int n), some (.ref R), some (.ref N), some (.ref p4), t5, t6, t7, t8])
      ⟨x4, .nd r [], [r], ⟨er4, trivial⟩, rfl, (show [r].Nodup by simp), fun a => Iff.rfl, rfl, rfl, eN4, eR4, ?_, ?_, hRN, ?_, _, _, _, _, rfl⟩ (fun _ _ _ _ _ => trivial) ?_ ?_⟩
    · exact fun h => hrR (List.mem_singleton.mp h).symm
    · exact fun h => hrN (List.mem_singleton.mp h).symm
    · intro a ha
      exact List.mem_singleton.mp ha ▸ wr
    · intro i x σ Ha Hb hi hp hy
      obtain ⟨xa, t, ns, ht, hroot, hnd, hmem, hlen, hlen2, eN, eR, hRt, hNt, hNR, hnw, t5, t6, t7, t8, rfl⟩ := hp
      obtain ⟨rfl, rfl⟩ := hy
      have hi : i < n - 1 := by omega
      have ei : (0 : Int) + (i : Int) = (i : Int) := by omega
      rw [ei]
      refine ⟨_, rfl, _, rfl, _, _, rfl, by omega, by omega, ?_⟩
      have hd0 := (dr_rng m (i : Int)).1
      generalize dr m (i : Int) = d at hd0 ⊢
      obtain ⟨d, rfl⟩ : ∃ k : Nat, d = k := ⟨d.toNat, by omega⟩
      have hm4 : m % 4 = 0 ∨ m % 4 = 1 ∨ m % 4 = 2 ∨ m % 4 = 3 := by omega
      have lN : ((ns.map V.ref).length : Int) = (i : Int) + 1 := by rw [List.length_map, hlen]; rfl
      have sN : SqL K Hb N (ns.map V.ref) := SqL.of eN
      refine ⟨_, rfl, _, rfl, _, _, rfl, .inl sN, _, _, rfl, rfl, (show (0 : Int) < ((ns.map V.ref).length : Int) by omega), _, rfl, _, _, rfl, .inl sN, _, _, rfl, rfl, _, rfl, _, _, rfl, .inl sN, _, _, rfl, rfl, _, rfl, _, _, rfl, rfl, (show (0 : Int) < 3 by decide), _, _, rfl, rfl, _, _, rfl, by exact (by decide : 4 ≤ sizeLine), fun p5 n5 => ?_⟩
      obtain ⟨k, hk, ek⟩ : ∃ k : Nat, k < i + 1 ∧ atI [V.int ((d : Int) % ((ns.map V.ref).length : Int)), V.int (((ns.map V.ref).length : Int) - 1), V.int 0, V.int (if ((ns.map V.ref).length : Int) - 1 - (d : Int) % 3 > 0 then ((ns.map V.ref).length : Int) - 1 - (d : Int) % 3 else 0)] (m % 4) = some (.int (k : Int)) := by
        rw [lN]
        rcases hm4 with h | h | h | h
        · refine ⟨d % (i + 1), Nat.mod_lt _ (by omega), ?_⟩
          rw [h]
          exact atI_nat (j := 0) (congrArg (fun z => some (V.int z)) (Int.natCast_emod _ _).symm)
        · refine ⟨i, by omega, ?_⟩
          rw [h]
          exact atI_nat (j := 1) (congrArg (fun z => some (V.int z)) (by omega))
        · refine ⟨0, by omega, ?_⟩
          rw [h]
          exact atI_nat (j := 2) rfl
        · refine ⟨i - d % 3, by omega, ?_⟩
          rw [h]
          refine atI_nat (j := 3) (congrArg (fun z => some (V.int z)) ?_)
          split <;> omega
      refine ⟨_, rfl, _, _, rfl, rfl, (show (0 : Int) < 4 by decide), p5, _, _, .int (k : Int), rfl, rfl, SqL.of (upd_same ..), ek, ?_⟩
      have x5 : Xt (tK K) Hb (upd Hb p5 (.lst [V.int ((d : Int) % ((ns.map V.ref).length : Int)), V.int (((ns.map V.ref).length : Int) - 1), V.int 0, V.int (if ((ns.map V.ref).length : Int) - 1 - (d : Int) % 3 > 0 then ((ns.map V.ref).length : Int) - 1 - (d : Int) % 3 else 0)])) := .new n5
      show tSeq _ _ _ _ (upd Hb p5 (.lst [V.int ((d : Int) % ((ns.map V.ref).length : Int)), V.int (((ns.map V.ref).length : Int) - 1), V.int 0, V.int (if ((ns.map V.ref).length : Int) - 1 - (d : Int) % 3 > 0 then ((ns.map V.ref).length : Int) - 1 - (d : Int) % 3 else 0)]))
      generalize upd Hb p5 _ = H5 at x5 ⊢
      refine ⟨by decide, fun f nf => ?_⟩
      have x8 := x5.trans (.new (o := .lst []) nf)
      have hf8 : (upd H5 f (.lst [])) f = some (.lst []) := upd_same ..
      have nwf : Nw H f := (xa.trans x5).nw (.of nf)
      have hfa : ∀ a ∈ addrs t, a ≠ f := fun a ha z => by
        obtain ⟨xs, h1, _⟩ := at_of_mem t ht ha
        rw [z] at h1
        rw [x5.lst h1] at nf
        cases nf
      have hfN : N ≠ f := fun z => by rw [← z, x5.lst eN] at nf; cases nf
      have hfR : R ≠ f := fun z => by rw [← z, x5.lst eR] at nf; cases nf
      show tSeq _ _ _ _ (upd H5 f (.lst []))
      generalize upd H5 f (.lst []) = H8 at x8 hf8 ⊢
      have eN8 := x8.lst eN
      have eR8 := x8.lst eR
      have ht8 := Xg.att x8 t ht
      obtain ⟨b, hb⟩ : ∃ b, ns[k]? = some b := ⟨ns[k], List.getElem?_eq_getElem (by omega)⟩
      have hbm : b ∈ addrs t := (hmem b).mp (List.mem_of_getElem? hb)
      obtain ⟨xs, eb8, lb⟩ := at_of_mem t ht8 hbm
      have hbk : (ns.map V.ref)[k]? = some (.ref b) := by rw [List.getElem?_map, hb]; rfl
      have h63 : ((d : Int) / 64 % ((xs.length : Int) + 1)) < 2 ^ 63 := by
        have := Int.emod_lt_of_pos ((d : Int) / 64) (show (0 : Int) < (xs.length : Int) + 1 by omega)
        omega
      refine ⟨_, rfl, _, rfl, N, _, (k : Int), .ref b, rfl, rfl, SqL.of eN8, atI_nat hbk, .inl ⟨rfl, _, SqL.of eb8⟩, _, rfl, _, _, rfl, rfl, ⟨by decide, by decide⟩, _, rfl, _, rfl, N, _, (k : Int), .ref b, rfl, rfl, SqL.of eN8, atI_nat hbk, _, _, rfl, .inl (SqL.of eb8), _, _, rfl, rfl, _, _, rfl, rfl, (show (0 : Int) < (xs.length : Int) + 1 by omega), _, rfl, b, xs, _, _, rfl, rfl, eb8, Nat.lt_of_le_of_lt (show xs.length ≤ 100 by omega) (by decide), Int.emod_nonneg _ (by omega), h63, ?_⟩
      generalize ((d : Int) / 64 % ((xs.length : Int) + 1)).toNat = j
      have hbR : R ≠ b := fun z => hRt (z ▸ hbm)
      have hbN : N ≠ b := fun z => hNt (z ▸ hbm)
      have xb := (xa.trans x8).mut (xs := xs.take j ++ [V.ref f] ++ xs.drop j) (hnw b hbm) eb8
      have eb9 : (upd H8 b (.lst (xs.take j ++ [V.ref f] ++ xs.drop j))) b = some (.lst (xs.take j ++ [V.ref f] ++ xs.drop j)) := upd_same ..
      have ht9 : AtH (upd H8 b (.lst (xs.take j ++ [V.ref f] ++ xs.drop j))) (ins b j f t) := ins_at xs eb8 eb9 (by rw [upd_ne (Ne.symm (hfa b hbm))]; exact hf8) t ht8 hnd (fun a ha _ => upd_ne ha) hbm
      have eN9 : (upd H8 b (.lst (xs.take j ++ [V.ref f] ++ xs.drop j))) N = some (.lst (ns.map V.ref)) := by rw [upd_ne hbN]; exact eN8
      have eR9 : (upd H8 b (.lst (xs.take j ++ [V.ref f] ++ xs.drop j))) R = some (.lst [.ref r]) := by rw [upd_ne hbR]; exact eR8
      show Ends.nx _ _ (upd H8 b (.lst (xs.take j ++ [V.ref f] ++ xs.drop j)))
      generalize upd H8 b (.lst (xs.take j ++ [V.ref f] ++ xs.drop j)) = H9 at xb ht9 eN9 eR9 ⊢
      have hperm := ins_perm (i := j) (f := f) t hnd hbm
      have hmem9 : ∀ a, a ∈ addrs (ins b j f t) ↔ a = f ∨ a ∈ addrs t := fun a => by rw [hperm.mem_iff, List.mem_cons]
      have hN9 : N ∉ addrs (ins b j f t) := fun h => ((hmem9 N).mp h).elim hfN hNt
      have hR9 : R ∉ addrs (ins b j f t) := fun h => ((hmem9 R).mp h).elim hfR hRt
      refine ⟨_, rfl, .inl ⟨rfl, _, SqL.of eN9⟩, _, rfl, N, _, _, rfl, rfl, eN9, by rw [List.length_map]; exact Nat.lt_of_le_of_lt (show ns.length ≤ 100 by omega) (by decide), xb.mut wN eN9, ins b j f t, ns ++ [f], AtH.frame _ ht9 (fun a ha => upd_ne fun z => hN9 (z ▸ ha)), by rw [ins_root]; exact hroot, ?_, fun a => ?_, by rw [List.length_append, hlen]; rfl, by rw [hperm.length_eq, List.length_cons, hlen2], by rw [upd_same, List.map_append]; rfl, by rw [upd_ne hNR]; exact eR9, hR9, hN9, hNR, fun a ha => ?_, _, _, _, _, rfl⟩
      · rw [hperm.nodup_iff, List.nodup_cons]
        exact ⟨fun h => hfa f h rfl, hnd⟩
      · rw [hmem9, List.mem_append, List.mem_singleton, hmem a]
        exact Or.comm
      · rcases (hmem9 a).mp ha with rfl | ha
        · exact nwf
        · exact hnw a ha
    · intro σ Ha hp
      obtain ⟨xa, t, ns, ht, hroot, hnd, hmem, hlen, hlen2, eN, eR, hRt, hNt, hNR, hnw, t5, t6, t7, t8, rfl⟩ := hp
      obtain ⟨g1, g2, g3⟩ := isT_toOb t
      have ho := AtH.ob (K := K) t ht
      rw [hroot] at ho
      refine ⟨_, rfl, R, _, 0, .ref r, rfl, rfl, SqL.of eR, atI_nat (j := 0) rfl, q Ha _ _ xa ho ?_ g1 ?_ ?_⟩
      · cases t with
        | nd a cs => exact ⟨_, rfl⟩
      · rw [g2]
        omega
      · omega
end
end Tw

set_option maxHeartbeats 4000000
namespace Tw
open PySem PySem.Spec PyProof.Rows L2 LamX
section
variable {P : Program} {w : World} {K : PySem.W.Frag} {mg : Str → Option Value} {base : Heap}
theorem hp__law_word (T : Tx K mg) {Tt : List (Addr × Str)} : FnHp P w K mg base 1 (He.fAd K ("_law_word", none)) (fdOf K ("_law_word", none)) ["_law_e"] (spWord K Tt) := by
  refine fn_hp T.F__law_word sc__law_word (fun p vs H Q h => ?_) (fun cdv A outer s H vs Q p hot hr h => ?_)
  · obtain ⟨x, hx, rfl, _⟩ := h
    rfl
  · obtain ⟨x, hx, rfl, hz, hf, q⟩ := h
    have b := bad_of T.exb hx
    have hC := b.c
    obtain ⟨a, oe⟩ := p
    have hp : (a, oe) ∈ (L2H.cxH CX0 P w K mg base N__law_word "_law_word" (defScope s__law_word) (He.fAd K ("_law_word", none)) cdv A outer s H E0 (a, oe)).pn := List.mem_cons_self
    have hcx : L2H.HotC (L2H.cxH CX0 P w K mg base N__law_word "_law_word" (defScope s__law_word) (He.fAd K ("_law_word", none)) cdv A outer s H E0 (a, oe)) := ⟨_, hot, hp⟩
    refine ⟨_, (pss_cons (ps_set (i := 1) sc__law_word.nd rfl (.inl rfl) (pe_lst (pa_cons (pe_callB (call_isP hC hp hz hf) (by rfl) T.z_isinstance b_isinstance (pa_cons (pv 0) (pa_cons (pe_glob (v := .ref _) (by rfl) T.g_BadNumber rfl) pa_nil))) (pa_cons (pe_callB (call_isP hC hp hz hf) (by rfl) T.z_isinstance b_isinstance (pa_cons (pv 0) (pa_cons (pe_glob (v := .ref _) (by rfl) T.g_BadBits rfl) pa_nil))) (pa_cons (pe_callB (call_isP hC hp hz hf) (by rfl) T.z_isinstance b_isinstance (pa_cons (pv 0) (pa_cons (pe_glob (v := .ref _) (by rfl) T.g_BadPlace rfl) pa_nil))) pa_nil)))))
    (pss_cons (ps_set (i := 1) sc__law_word.nd rfl (.inl rfl) (pe_op op_cat (pv 1) (pe_lst (pa_cons (pe_callB (call_isP hC hp hz hf) (by rfl) T.z_isinstance b_isinstance (pa_cons (pv 0) (pa_cons (pe_glob (v := .ref _) (by rfl) T.g_BadText rfl) pa_nil))) pa_nil))))
    (pss_cons (ps_set (i := 1) sc__law_word.nd rfl (.inl rfl) (pe_op op_cat (pv 1) (pe_lst (pa_cons (pe_callB (call_isP hC hp hz hf) (by rfl) T.z_isinstance b_isinstance (pa_cons (pv 0) (pa_cons (pe_glob (v := .ref _) (by rfl) T.g_BadCode rfl) pa_nil))) (pa_cons (pe_callB (call_isP hC hp hz hf) (by rfl) T.z_isinstance b_isinstance (pa_cons (pv 0) (pa_cons (pe_glob (v := .ref _) (by rfl) T.g_BadTree rfl) pa_nil))) (pa_cons (pe_callB (call_isP hC hp hz hf) (by rfl) T.z_isinstance b_isinstance (pa_cons (pv 0) (pa_cons (pe_glob (v := .ref _) (by rfl) T.g_TooMany rfl) pa_nil))) pa_nil))))))
    (pss_cons (ps_if (PW.pt (pw_or (pt_cmpR op_ne (pe_callB (cr_sumH hcx) (by rfl) T.z_sum b_sum (pa_cons (pe_lcH (own := [("_law_flag", 2)]) hcx sc__law_word.nd (pv 1) (blkOk_by (N := N__law_word) (sc := defScope s__law_word) (by decide +kernel)) (fun _ _ _ _ _ => (pg_name (i := 2) sc__law_word.nd rfl (.inl rfl))) (fun _ _ _ _ _ => (pe_callTy call_int1 (by rfl) T.z_int b_int (pa_cons (pv 2) pa_nil)))) pa_nil)) pe_int (nomark _)) (pw_or1 (pt_not (pt_val (pe_callB (call_isP hC hp hz hf) (by rfl) T.z_isinstance b_isinstance (pa_cons (pv 0) (pa_cons (pe_bltn (v := .ty _) (by rfl) T.z_ValueError b_ValueError rfl) pa_nil))))))))
    (pss_one (ps_ret pe_str)) pss_nil)
    (pss_one (ps_ret (pe_ix (ix_listK (K := K) rfl) (pe_lst (pa_cons pe_str (pa_cons pe_str (pa_cons pe_str (pa_cons pe_str (pa_cons pe_str (pa_cons pe_str (pa_cons pe_str pa_nil)))))))) (pe_bmK (K := K) rfl F.plainAttrs_list F.slot_list_index F.type_list_index (mt_indexK (K := K) rfl) (pv 1) (pa_cons pe_bl pa_nil) (by rfl) (by rfl) (by rfl) (by rfl) (by rfl)) (fun _ _ => rfl)))))))), ?_⟩
    let c (y : Str) : V := .bl (decide (x = y))
    refine ⟨_, rfl, _, _, _, rfl, fun _ r => r, b.k "BadNumber" (by decide +kernel), _, rfl, _, _, _, rfl, fun _ r => r, b.k "BadBits" (by decide +kernel), _, rfl, _, _, _, rfl, fun _ r => r, b.k "BadPlace" (by decide +kernel), (by decide : 3 ≤ sizeLine), fun p1 n1 => ?_⟩
    have x1 : Xt Tt H (upd H p1 (.lst [c "BadNumber", c "BadBits", c "BadPlace"])) := .new n1
    have e1 : (upd H p1 (.lst [c "BadNumber", c "BadBits", c "BadPlace"])) p1 = some (.lst [c "BadNumber", c "BadBits", c "BadPlace"]) := upd_same ..
    generalize upd H p1 (.lst [c "BadNumber", c "BadBits", c "BadPlace"]) = H1 at x1 e1 ⊢
    refine ⟨_, rfl, _, rfl, _, _, _, rfl, fun _ r => r, b.k "BadText" (by decide +kernel), (by decide : 1 ≤ sizeLine), fun p2 n2 => ?_⟩
    have x2 : Xt Tt H (upd H1 p2 (.lst [c "BadText"])) := x1.trans (.new n2)
    refine ⟨_, _, _, _, rfl, rfl, (Xt.new (T := Tt) n2).lst e1, upd_same .., (by decide : 4 ≤ sizeLine), fun p3 n3 => ?_⟩
    have x3 := x2.trans (.new (T := Tt) (o := .lst [c "BadNumber", c "BadBits", c "BadPlace", c "BadText"]) n3)
    have e3 : (upd (upd H1 p2 (.lst [c "BadText"])) p3 (.lst [c "BadNumber", c "BadBits", c "BadPlace", c "BadText"])) p3 = some (.lst [c "BadNumber", c "BadBits", c "BadPlace", c "BadText"]) := upd_same ..
    show tSeq _ _ _ _ (upd (upd H1 p2 (.lst [c "BadText"])) p3 (.lst [c "BadNumber", c "BadBits", c "BadPlace", c "BadText"]))
    generalize upd (upd H1 p2 (.lst [c "BadText"])) p3 (.lst [c "BadNumber", c "BadBits", c "BadPlace", c "BadText"]) = H3 at x3 e3 ⊢
    refine ⟨_, rfl, _, rfl, _, _, _, rfl, fun _ r => r, b.k "BadCode" (by decide +kernel), _, rfl, _, _, _, rfl, fun _ r => r, b.k "BadTree" (by decide +kernel), _, rfl, _, _, _, rfl, fun _ r => r, b.k "TooMany" (by decide +kernel), (by decide : 3 ≤ sizeLine), fun p4 n4 => ?_⟩
    refine ⟨_, _, _, _, rfl, rfl, (Xt.new (T := Tt) n4).lst e3, upd_same .., (by decide : 7 ≤ sizeLine), fun p5 n5 => ?_⟩
    have x5 := (x3.trans (.new (T := Tt) (o := .lst [c "BadCode", c "BadTree", c "TooMany"]) n4)).trans (.new (T := Tt) (o := .lst (seven.map c)) n5)
    have e5 : (upd (upd H3 p4 (.lst [c "BadCode", c "BadTree", c "TooMany"])) p5 (.lst (seven.map c))) p5 = some (.lst (seven.map c)) := upd_same ..
    show tSeq _ _ _ _ (upd (upd H3 p4 (.lst [c "BadCode", c "BadTree", c "TooMany"])) p5 (.lst (seven.map c)))
    generalize upd (upd H3 p4 (.lst [c "BadCode", c "BadTree", c "TooMany"])) p5 (.lst (seven.map c)) = H5 at x5 e5 ⊢
    refine ⟨_, rfl, _, _, rfl, SqL.of e5, fun D hD => ⟨fun i H' => Xt Tt H H' ∧ H' p5 = some (.lst (seven.map c)) ∧ H' D = some (.lst ((seven.take i).map fun y => .int (if x = y then 1 else 0))), ?_, ?_, ?_, ?_⟩⟩
    · exact ⟨x5.trans (.new hD), (Xt.new (T := Tt) hD).lst e5, upd_same ..⟩
    · exact fun i H' h => SqL.of h.2.1
    · intro i v H' hv h
      refine ⟨rfl, ?_⟩
      obtain ⟨x6, h6, h7⟩ := h
      rw [List.getElem?_map] at hv
      obtain ⟨y, hy, rfl⟩ := Option.map_eq_some_iff.mp hv
      refine ⟨_, rfl, .inr ⟨_, rfl, _, h7, ?_, x6.mut (x5.nw (.of hD)) h7, ?_, ?_⟩⟩
      · rw [List.length_map, List.length_take]
        exact Nat.lt_of_le_of_lt (Nat.min_le_right _ _) (by decide)
      · rw [upd_ne (fun z => ?_)]
        · exact h6
        · rw [← z] at h7
          rw [h6] at h7
          have h8 := congrArg (fun o : Option HO => match o with | some (.lst (V.bl _ :: _)) => true | _ => false) h7
          cases i with
          | zero => cases h8
          | succ i => cases h8
      · rw [upd_same, List.take_add_one, hy, List.map_append]
        by_cases e : x = y
        · rw [decide_eq_true e]
          simp [e]
        · rw [decide_eq_false e]
          simp [e]
    · rintro H' ⟨x6, h6, h7⟩
      refine ⟨_, seven.map fun y => if x = y then 1 else 0, rfl, SqL.of ?_, ?_⟩
      · rw [h7]
        show some (HO.lst _) = some (HO.lst _)
        rw [List.map_map]
        rfl
      · have hs : (seven.map fun y => if x = y then (1 : Int) else 0).sum = 1 := by
          simp only [seven, List.mem_cons, List.not_mem_nil, or_false] at hx
          rcases hx with rfl | rfl | rfl | rfl | rfl | rfl | rfl <;> decide +kernel
        rw [hs]
        refine ⟨rfl, _, rfl, ite2 (fun z => absurd z (by decide)) fun _ => ?_⟩
        refine ⟨_, rfl, _, _, _, rfl, fun _ r => r, b.v, _, rfl, iteF ?_⟩
        refine ⟨by decide, fun p6 n6 => ?_⟩
        have h5 : (upd H' p6 (.lst (seven.map .str))) p5 = some (.lst (seven.map c)) := (Xt.new (T := Tt) n6).lst h6
        obtain ⟨j, hj, hl⟩ := List.mem_iff_getElem.mp hx
        have sq : SqL K (upd H' p6 (.lst (seven.map .str))) p5 (seven.map c) := SqL.of h5
        refine ⟨_, rfl, .inl ⟨rfl, _, sq⟩, p5, _, .bl true, j, .bl true, rfl, rfl, sq, rfl, ?_, ?_, rfl, ?_, ?_⟩
        · rw [List.all_eq_true]
          intro v hv
          obtain ⟨y, _, rfl⟩ := List.mem_map.mp hv
          rfl
        · rw [List.getElem?_map, List.getElem?_eq_getElem hj, hl]
          show some (V.bl (decide (x = x))) = _
          rw [decide_eq_true rfl]
        · intro m z hm hz
          rw [List.getElem?_map] at hz
          obtain ⟨y, hy, rfl⟩ := Option.map_eq_some_iff.mp hz
          have ne : x ≠ y := fun e => by
            have hm2 : m < seven.length := by omega
            rw [List.getElem?_eq_getElem hm2] at hy
            have hj3 : ∀ i (h : i < seven.length), ∀ k (h2 : k < seven.length), i < k → seven[i] ≠ seven[k] := by decide +kernel
            exact hj3 m hm2 j hj hm (by rw [hl, e]; exact Option.some.inj hy)
          show (decide (x = y) == true) = false
          rw [decide_eq_false ne]
          rfl
        · refine ⟨p6, seven.map .str, j, .str x, rfl, rfl, SqL.of (upd_same ..), atI_nat ?_, q _ (x6.trans (.new n6))⟩
          rw [List.getElem?_map, List.getElem?_eq_getElem hj, hl]
          rfl
end
def tTold (K : PySem.W.Frag) (t : XK → TE) : TE := fun σ H Q => Tabs (tK K) H ∧ ∀ H1, ExtN H H1 → Tabs (tK K) H1 → t (EW K (tK K) Q) σ H1 Q
section
variable {X : Cx} {K : PySem.W.Frag} {mg : Str → Option Value} {base : Heap}
theorem pe_told (T : Tx K mg) {at_ : He.Defn} {k : Nat} {params : Arguments} {body : Expr} {scope : Scope} {t : XK → TE} {p lpos pos : Pos}
    (TB : TabB base mg (He.cT K at_).1 (He.cT K at_).2) (hK : X.K = K) (hmg : X.mg = mg) (hbs : X.base = base) (hr : Room (k + 4) X.A) (hg : Gl X "_law_told") (hcode : X.env.code = .ref (He.cT K at_).1) (hmT : ((He.cT K at_).2, X.env.qual ++ "<lambda>") ∈ tK K)
    (hu : ∀ p ∈ tK K, p.1 = (He.cT K at_).2 → p.2 = X.env.qual ++ "<lambda>") (L : LamS X.env.scope scope) (hdef : defaultsOf params X.env = ([], []))
    (hbind : ∀ (q : Str) (cl : List (Str × Addr)) (pm cv ctv : Value), bindArgs (PySem.W.kla_fn "<lambda>" q params body scope cl pm cv ctv) ⟨[], []⟩ = pure [])
    (hbody : ∀ (A : Around) (outer : List Env) (s : Shared) (H : Hp) (E : XK) (f c' : Addr), Room (k + 2) (A.deeper (lamEnv X scope s.heap.objs.size f c')) → (∀ σ, PassesAt (L2N.CX X.prog X.w) (lamN X A outer s H E scope f c') σ E) → PE (lamN X A outer s H E scope f c') body (t E)) :
    PE X (.Call (.Name "_law_told" p) [.Lambda params body scope lpos] [] pos) (tTold K t) := by
  subst hK hmg hbs
  exact told_gen hg T.g__law_told T.F__law_told T.B__law_told sc__law_told rfl rfl rfl rfl T.g_TerseError T.g__law_word T.F__law_word.kp T.B__law_word (hp__law_word T) T.exb TB hcode hmT hu hr L hdef hbind fun A outer s H E f c' hr2 => hbody A outer s H E f c' hr2 fun σ => psL σ
end
end Tw

set_option maxHeartbeats 4000000
namespace Tw
open PySem PySem.Spec PyProof.Rows L2 LamX
section
variable {P : Program} {w : World} {K : PySem.W.Frag} {mg : Str → Option Value} {base : Heap}
/-! ### the ways, by rows -/
def rowV (i : Nat) : List V := (List.range (i + 1)).map fun d => V.int ((wy i d : Nat) : Int)
theorem rowV_len (i : Nat) : (rowV i).length = i + 1 := by
  unfold rowV
  rw [List.length_map, List.length_range]
theorem rowV_at {i d : Nat} (h : d ≤ i) : (rowV i)[d]? = some (.int ((wy i d : Nat) : Int)) := by
  unfold rowV
  rw [List.getElem?_map, List.getElem?_range (by omega)]
  rfl
theorem rowV_dn {i d : Nat} (h0 : 0 < d) (h : d ≤ i + 1) : (rowV i)[d - 1]? = some (.int ((dn i d : Nat) : Int)) := by
  cases d with
  | zero => cases h0
  | succ d => exact rowV_at (by omega)
def CntAt (K : PySem.W.Frag) (H : Hp) (c : Addr) (n : Nat) : Prop := ∃ (dx R : Addr) (rs : List Addr), H c = some (.ins (He.ga K "Counts") dx [("rows", .ref R)]) ∧ H R = some (.lst (rs.map V.ref)) ∧ rs.length = 2 * n ∧ ∀ i a, rs[i]? = some a → H a = some (.lst (rowV i))
theorem cntSeen {R : Addr} : ∀ fs' n, [(("rows" : Str), V.ref R)] ≠ fs' ++ sn n := fun fs' n h => by
  have h2 := congrArg List.getLast? h
  unfold sn at h2
  rw [List.getLast?_concat] at h2
  have h3 : (some (("rows" : Str), V.ref R) : Option (Str × V)) = some (("seen" : Str), V.int n) := h2
  injection h3 with h3
  have h4 := congrArg Prod.snd h3
  cases h4
theorem noF : ∀ fs' n, ([] : List (Str × V)) ≠ fs' ++ sn n := fun fs' n h => by
  have := congrArg List.length h
  rw [List.length_append] at this
  simp [sn] at this
theorem CntAt.xg {lo : Prop} {H H' : Hp} {c : Addr} {n : Nat} {T : List (Addr × Str)} (h : CntAt K H c n) (x : Xg lo T H H') : CntAt K H' c n := by
  obtain ⟨dx, R, rs, e, eR, hl, hr⟩ := h
  exact ⟨dx, R, rs, x.ins e cntSeen, x.lst eR, hl, fun i a h => x.lst (hr i a h)⟩
def spNeedCount (K : PySem.W.Frag) : Sp := fun vs H Q E => ∃ n : Int, vs = [.int n] ∧ ((1 ≤ n ∧ n ≤ 200) → Q .non H) ∧ (¬ (1 ≤ n ∧ n ≤ 200) → E (.ref (He.ga K "BadNumber")) none H)
theorem ok_need_count (T : Tx K mg) : OkN P w K mg base ("need_count", none) 1 ["count"] (spNeedCount K) := by
  refine T.F_need_count.ok sc_need_count (fun vs H Q E h => ?_) (fun cdv A outer s H vs Q E hr h => ?_)
  · obtain ⟨n, rfl, _⟩ := h
    rfl
  · obtain ⟨n, rfl, q1, q2⟩ := h
    refine ⟨_, (pss_one (ps_if (pt_not (pt_chain op_le op_le pe_int (pv 0) (pe_glob (v := .int _) (by rfl) T.c_MOST_COUNT.choose_spec ⟨_, rfl⟩)))
    (pss_one (ps_rz T.x_BadNumber rfl (by decide))) pss_nil)), ?_⟩
    refine ⟨_, rfl, _, _, rfl, rfl, _, rfl, ite2 (fun h1 => ?_) (fun h1 => ?_)⟩
    · have h1 := of_decide_eq_true h1
      refine ⟨_, _, rfl, rfl, _, rfl, ite2 (fun h2 => ?_) (fun h2 => ?_)⟩
      · exact q2 fun h => by
          rw [decide_eq_true h.2] at h2
          cases h2
      · refine q1 ⟨h1, ?_⟩
        by_cases h3 : n ≤ 200
        · exact h3
        · exact absurd (show (!decide (n ≤ 200)) = true by rw [decide_eq_false h3]; rfl) h2
    · exact ⟨_, rfl, iteT (q2 fun h => h1 (decide_eq_true h.1))⟩
def spWays (K : PySem.W.Frag) : Sp := fun vs H Q E => ∃ (c : Addr) (n left deep : Nat), vs = [.ref c, .int left, .int deep] ∧ CntAt K H c n ∧ left < 2 * n ∧ Q (.int ((wy left deep : Nat) : Int)) H
theorem ok_Counts_ways (T : Tx K mg) : OkN P w K mg base ("Counts", some "ways") 1 ["self", "left", "deep"] (spWays K) := by
  refine T.F_Counts_ways.ok sc_Counts_ways (fun vs H Q E h => ?_) (fun cdv A outer s H vs Q E hr h => ?_)
  · obtain ⟨c, n, left, deep, rfl, _⟩ := h
    rfl
  · obtain ⟨c, n, left, deep, rfl, ⟨dx, R, rs, e, eR, hl, hrs⟩, hlt, q⟩ := h
    refine ⟨_, (pss_cons (ps_if (pt_not (pt_chain op_le op_lt pe_int (pv 2) (pe_callB (call_len_seqK (K := K) rfl) (by rfl) T.z_len b_len (pa_cons (pe_ix (ix_listK (K := K) rfl) (pe_fldK (K := K) rfl (pv 0) (by rfl)) (pv 1) (fun _ _ => rfl)) pa_nil))))
    (pss_one (ps_ret pe_int)) pss_nil)
    (pss_one (ps_ret (pe_ix (ix_listK (K := K) rfl) (pe_ix (ix_listK (K := K) rfl) (pe_fldK (K := K) rfl (pv 0) (by rfl)) (pv 1) (fun _ _ => rfl)) (pv 2) (fun _ _ => rfl))))), ?_⟩
    obtain ⟨a, ha⟩ : ∃ a, rs[left]? = some a := ⟨rs[left], List.getElem?_eq_getElem (by omega)⟩
    have ea := hrs left a ha
    have hg : (rs.map V.ref)[left]? = some (.ref a) := by rw [List.getElem?_map, ha]; rfl
    refine ⟨_, rfl, _, _, rfl, rfl, _, rfl, ite2 (fun _ => ?_) (fun h => absurd (decide_eq_true (show (0 : Int) ≤ (deep : Int) by omega)) h)⟩
    refine ⟨_, rfl, c, _, dx, _, _, rfl, e, T.k_Counts, T.n_Counts_rows, rfl, _, rfl, R, _, _, .ref a, rfl, rfl, SqL.of eR, atI_nat hg, _, _, rfl, .inl (SqL.of ea), _, _, rfl, rfl, _, rfl, ite2 (fun h => ?_) (fun h => ?_)⟩
    · rw [wy_far left deep ?_] at q
      · exact q
      · by_cases h2 : left < deep
        · exact h2
        · rw [rowV_len, decide_eq_true (show ((deep : Nat) : Int) < ((left + 1 : Nat) : Int) by omega)] at h
          cases h
    · have hd : deep ≤ left := by
        by_cases h2 : deep ≤ left
        · exact h2
        · exact absurd (show (!decide (((deep : Nat) : Int) < (((rowV left).length : Nat) : Int))) = true by rw [rowV_len, decide_eq_false (by omega)]; rfl) h
      exact ⟨_, rfl, c, _, dx, _, _, rfl, e, T.k_Counts, T.n_Counts_rows, rfl, _, rfl, R, _, _, .ref a, rfl, rfl, SqL.of eR, atI_nat hg, _, rfl, a, _, _, _, rfl, rfl, SqL.of ea, atI_nat (rowV_at hd), q⟩
def spCounts (K : PySem.W.Frag) : Sp := fun vs H Q E => ∃ (H0 : Hp) (c dx : Addr) (n : Nat), vs = [.ref c, .int n] ∧ Xt (tK K) H0 H ∧ Nw H0 c ∧ H c = some (.ins (He.ga K "Counts") dx []) ∧ 1 ≤ n ∧ n ≤ 1000 ∧
  ∀ H', Xt (tK K) H0 H' → CntAt K H' c n → Q .non H'
theorem ok_Counts_init (T : Tx K mg) : OkN P w K mg base ("Counts", some "__init__") 1 ["self", "count"] (spCounts K) := by
  refine T.F_Counts_init.ok sc_Counts_init (fun vs H Q E h => ?_) (fun cdv A outer s H vs Q E hr h => ?_)
  · obtain ⟨H0, c, dx, n, rfl, _⟩ := h
    rfl
  · obtain ⟨H0, c, dx, n, rfl, x0, nc, e, hn1, hn2, q⟩ := h
    refine ⟨_, (pss_cons (ps_set (i := 2) sc_Counts_init.nd rfl (.inl rfl) (pe_lst (pa_cons (pe_lst (pa_cons pe_int pa_nil)) pa_nil)))
    (pss_cons (ps_for (passes_of rfl) rfl (pi_range2 (by rfl) T.z_range (pa_cons pe_int (pa_cons (pe_op op_mul pe_int (pv 1)) pa_nil))) (pg_name (i := 3) sc_Counts_init.nd rfl (.inl rfl))
    (pss_cons (ps_set (i := 4) sc_Counts_init.nd rfl (.inl rfl) (pe_ix (ix_listK (K := K) rfl) (pv 2) (pe_un un_neg pe_int) (fun _ _ => rfl)))
    (pss_cons (ps_set (i := 5) sc_Counts_init.nd rfl (.inl rfl) (pe_lst pa_nil))
    (pss_cons (ps_for (passes_of rfl) rfl (pi_range1 (by rfl) T.z_range (pa_cons (pe_op op_add (pv 3) pe_int) pa_nil)) (pg_name (i := 6) sc_Counts_init.nd rfl (.inl rfl))
    (pss_cons (ps_set (i := 7) sc_Counts_init.nd rfl (.inl rfl) (pe_ifExp (pt_cmpR op_lt (pe_op op_add (pv 6) pe_int) (pe_callB (call_len_seqK (K := K) rfl) (by rfl) T.z_len b_len (pa_cons (pv 4) pa_nil)) (nomark _)) (pe_ix (ix_listK (K := K) rfl) (pv 4) (pe_op op_add (pv 6) pe_int) (fun _ _ => rfl)) pe_int))
    (pss_cons (ps_set (i := 8) sc_Counts_init.nd rfl (.inl rfl) (pe_ifExp (pt_cmpR op_gt (pv 6) pe_int (nomark _)) (pe_ix (ix_listK (K := K) rfl) (pv 4) (pe_op op_sub (pv 6) pe_int) (fun _ _ => rfl)) pe_int))
    (pss_one (ps_expr (pe_bmK (K := K) rfl F.plainAttrs_list F.slot_list_append F.type_list_append mt_append (pv 5) (pa_cons (pe_op op_add (pv 7) (pv 8)) pa_nil) (by rfl) (by rfl) (by rfl) (by rfl) (by rfl)))))))
    (pss_one (ps_expr (pe_bmK (K := K) rfl F.plainAttrs_list F.slot_list_append F.type_list_append mt_append (pv 2) (pa_cons (pv 5) pa_nil) (by rfl) (by rfl) (by rfl) (by rfl) (by rfl))))))))
    (pss_one (ps_fld (pv 0) (pv 2) rfl)))), ?_⟩
    refine ⟨by exact (by decide : 1 ≤ sizeLine), fun b nb => ?_⟩
    have xb := x0.trans (.new (o := .lst [.int 1]) nb)
    have eb : (upd H b (.lst [.int 1])) b = some (.lst (rowV 0)) := upd_same ..
    have hcb : c ≠ b := fun z => by rw [← z, e] at nb; cases nb
    have ec : (upd H b (.lst [.int 1])) c = some (.ins (He.ga K "Counts") dx []) := by rw [upd_ne hcb]; exact e
    generalize upd H b (.lst [.int 1]) = H1 at xb eb ec ⊢
    refine ⟨by exact (by decide : 1 ≤ sizeLine), fun R nR => ?_⟩
    have nR0 : Nw H0 R := xb.nw (.of nR)
    have hcR : c ≠ R := fun z => by rw [← z, ec] at nR; cases nR
    have hbR : b ≠ R := fun z => by rw [← z, eb] at nR; cases nR
    generalize hH : upd H1 R _ = H2
    have x2 := xb.trans (newE hH nR)
    have eR : H2 R = some (.lst ([b].map V.ref)) := atE hH
    have eb : H2 b = some (.lst (rowV 0)) := by rw [← hH, upd_ne hbR]; exact eb
    have ec : H2 c = some (.ins (He.ga K "Counts") dx []) := by rw [← hH, upd_ne hcR]; exact ec
    clear hH nR nb e xb
    have ek : (2 * (n : Int) - 1).toNat = 2 * n - 1 := by omega
    refine ⟨_, rfl, _, _, rfl, rfl, .inl ⟨by decide, by decide⟩, _, _, rfl, ⟨by omega, by omega, by omega, by omega⟩, for_it w_range (fun i σ H' => Xt (tK K) H0 H' ∧ H' c = some (.ins (He.ga K "Counts") dx []) ∧ ∃ rs : List Addr, rs.length = i + 1 ∧ H' R = some (.lst (rs.map V.ref)) ∧ (∀ j a, rs[j]? = some a → a ≠ R ∧ H' a = some (.lst (rowV j))) ∧ ∃ t3 t4 t5 t6 t7 t8, σ = [some (.ref c), some (.int n), some (.ref R), t3, t4, t5, t6, t7, t8])
      ⟨x2, ec, [b], rfl, eR, fun j a h => ?_, _, _, _, _, _, _, rfl⟩ (fun _ _ _ _ _ => trivial) ?_ ?_⟩
    · cases j with
      | zero =>
        cases h
        exact ⟨hbR, eb⟩
      | succ j => cases h
    · intro i x σ Ha Hb hi hp hy
      obtain ⟨xa, ec, rs, hl, eR, hrs, t3, t4, t5, t6, t7, t8, rfl⟩ := hp
      obtain ⟨rfl, rfl⟩ := hy
      have hi : i < 2 * n - 1 := by omega
      obtain ⟨rs', a, rfl⟩ := SrtO.snoc_of (l := rs) (by omega)
      have hl' : rs'.length = i := by rw [List.length_append, List.length_singleton] at hl; omega
      have ea : Hb a = some (.lst (rowV i)) := (hrs i a (by rw [← hl', List.getElem?_append_right (Nat.le_refl _), Nat.sub_self]; rfl)).2
      refine ⟨_, rfl, _, rfl, R, _, _, .ref a, rfl, rfl, SqL.of eR, by rw [List.map_append]; exact atI_last _ _, by decide, fun p np => ?_⟩
      generalize hH : upd Hb p _ = Hc
      have xc : Xt (tK K) Hb Hc := newE hH np
      have ep : Hc p = some (.lst ((List.range 0).map fun d => V.int ((wy (i + 1) d : Nat) : Int))) := atE hH
      clear hH
      have npb : Nw Hb p := .of np
      have hpR : p ≠ R := fun z => by rw [z, eR] at np; cases np
      have e2 : ((1 : Int) + (i : Int) + 1).toNat = i + 2 := by omega
      refine ⟨_, rfl, _, _, rfl, rfl, _, rfl, by omega, by omega, for_it w_range (fun j σ H' => Xt (tK K) Hb H' ∧ H' p = some (.lst ((List.range j).map fun d => V.int ((wy (i + 1) d : Nat) : Int))) ∧ ∃ t6 t7 t8, σ = [some (.ref c), some (.int n), some (.ref R), some (.int (1 + (i : Int))), some (.ref a), some (.ref p), t6, t7, t8])
        ⟨xc, ep, _, _, _, rfl⟩ (fun _ _ _ _ _ => trivial) ?_ ?_⟩
      · intro j x σ Hd He hj hp hy
        obtain ⟨xd, ep, t6, t7, t8, rfl⟩ := hp
        obtain ⟨rfl, rfl⟩ := hy
        have hj : j < i + 2 := by omega
        have ea := xd.lst ea
        rw [show (0 : Int) + (j : Int) = (j : Int) by omega]
        refine ⟨_, rfl, _, _, rfl, rfl, _, rfl, _, _, rfl, .inl (SqL.of ea), _, _, rfl, rfl, _, rfl, ?_⟩
        apply via (P := fun H' => H' = He)
        · intro k
          refine ite2 (fun h => ?_) (fun h => ?_)
          · have h := of_decide_eq_true h
            rw [rowV_len] at h
            exact ⟨_, rfl, _, rfl, _, _, rfl, rfl, a, _, _, .int ((wy i (j + 1) : Nat) : Int), rfl, rfl, SqL.of ea, by rw [show (j : Int) + 1 = ((j + 1 : Nat) : Int) by omega]; exact atI_nat (rowV_at (by omega)), k _ rfl⟩
          · refine gv (v := .int ((wy i (j + 1) : Nat) : Int)) ?_ (k _ rfl)
            rw [wy_far i (j + 1) ?_]
            · rfl
            · by_cases h2 : i < j + 1
              · exact h2
              · exact absurd (decide_eq_true (by rw [rowV_len]; omega)) h
        · rintro H' rfl
          refine ⟨_, rfl, _, _, rfl, rfl, _, rfl, ?_⟩
          apply via (P := fun H'' => H'' = H')
          · intro k
            refine ite2 (fun h => ?_) (fun h => ?_)
            · have h := of_decide_eq_true h
              exact ⟨_, rfl, _, rfl, _, _, rfl, rfl, a, _, _, .int ((dn i j : Nat) : Int), rfl, rfl, SqL.of ea, by rw [show (j : Int) - 1 = ((j - 1 : Nat) : Int) by omega]; exact atI_nat (rowV_dn (by omega) (by omega)), k _ rfl⟩
            · have hj0 : j = 0 := by
                by_cases h2 : j = 0
                · exact h2
                · exact absurd (decide_eq_true (show (j : Int) > 0 by omega)) h
              refine gv (v := .int ((dn i j : Nat) : Int)) ?_ (k _ rfl)
              rw [hj0]
              rfl
          · rintro H'' rfl
            refine ⟨_, rfl, .inl ⟨rfl, _, SqL.of ep⟩, _, rfl, _, rfl, _, _, rfl, rfl, p, _, _, rfl, rfl, ep, ?_, xd.mut npb ep, ?_, _, _, _, rfl⟩
            · rw [List.length_map, List.length_range]
              exact Nat.lt_of_lt_of_le hj (Nat.le_trans (show i + 2 ≤ 100000 by omega) (by decide))
            · rw [upd_same, List.range_succ, List.map_append]
              refine congrArg (fun v => some (HO.lst (_ ++ [V.int v]))) ?_
              rw [wy_step]
              omega
      · intro σ Hd hp
        obtain ⟨xd, ep, t6, t7, t8, rfl⟩ := hp
        rw [e2] at ep
        have eR := xd.lst eR
        refine ⟨_, rfl, .inl ⟨rfl, _, SqL.of eR⟩, _, rfl, R, _, _, rfl, rfl, eR, ?_, (xa.trans xd).mut nR0 eR, ?_, (rs' ++ [a]) ++ [p], ?_, ?_, fun j b hb => ?_, _, _, _, _, _, _, rfl⟩
        · rw [List.length_map, hl]
          exact Nat.lt_of_lt_of_le (show i + 1 < 100000 by omega) (by decide)
        · rw [upd_ne hcR]
          exact xd.ins ec noF
        · rw [List.length_append, hl]
          rfl
        · rw [upd_same, List.map_append (l₂ := [p])]
          rfl
        · rcases snoc_at hb with hb | ⟨rfl, rfl⟩
          · obtain ⟨h1, h2⟩ := hrs j b hb
            exact ⟨h1, by rw [upd_ne h1]; exact xd.lst h2⟩
          · exact ⟨hpR, by rw [upd_ne hpR, ep, hl]; rfl⟩
    · intro σ Ha hp
      obtain ⟨xa, ec, rs, hl, eR, hrs, t3, t4, t5, t6, t7, t8, rfl⟩ := hp
      refine ⟨_, rfl, _, rfl, c, _, dx, _, rfl, ec, T.k_Counts, T.n_Counts_rows, by exact (by decide : 0 < 1000), ?_⟩
      refine q _ (xa.put nc (.ins ec)) ⟨dx, R, rs, upd_same .., by rw [upd_ne (Ne.symm hcR)]; exact eR, by omega, fun i a h => ?_⟩
      obtain ⟨_, h2⟩ := hrs i a h
      have hca : a ≠ c := fun z => by rw [z, ec] at h2; cases h2
      rw [upd_ne hca]
      exact h2
def spHowMany (K : PySem.W.Frag) : Sp := fun vs H Q E => ∃ n : Int, vs = [.int n] ∧ (∀ k : Nat, n = k → 1 ≤ k → k ≤ 200 → ∀ H', Xt (tK K) H H' → Q (.int ((few k : Nat) : Int)) H') ∧ (¬ (1 ≤ n ∧ n ≤ 200) → E (.ref (He.ga K "BadNumber")) none H)
theorem ok_how_many (T : Tx K mg) : OkN P w K mg base ("how_many", none) 3 ["count"] (spHowMany K) := by
  refine T.F_how_many.ok sc_how_many (fun vs H Q E h => ?_) (fun cdv A outer s H vs Q E hr h => ?_)
  · obtain ⟨n, rfl, _⟩ := h
    rfl
  · obtain ⟨n, rfl, q1, q2⟩ := h
    refine ⟨_, (pss_cons (ps_expr (pe_callS (ok_need_count T) (hr.mono (by decide)) (by rfl) T.g_need_count T.F_need_count.kp T.B_need_count psE (pa_cons (pv 0) pa_nil)))
    (pss_one (ps_ret (pe_meth (dvs := []) (pe_make (dvs := []) T.mk_Counts (ok_Counts_init T) (hr.mono (by decide)) (by rfl) T.g_Counts T.B_Counts_init .nil psP (pa_cons (pv 0) pa_nil)) T.k_Counts T.M_Counts_ways (ok_Counts_ways T) (hr.mono (by decide)) T.B_Counts_ways .nil psP (pa_cons (pe_op op_sub (pe_op op_mul pe_int (pv 0)) pe_int) (pa_cons pe_int pa_nil)))))), ?_⟩
    refine ⟨_, rfl, n, rfl, fun h => ?_, q2⟩
    obtain ⟨k, rfl⟩ : ∃ k : Nat, n = k := ⟨n.toNat, by omega⟩
    refine ⟨_, rfl, fun c dc hcn hdn hne => ?_⟩
    have xm : Xt (tK K) H (upd (upd H dc (.own c)) c (.ins (He.ga K "Counts") dc [])) := (Xt.new hdn).trans (.new (by rw [upd_ne (Ne.symm hne)]; exact hcn))
    refine ⟨H, c, dc, k, rfl, xm, .of hcn, upd_same .., by omega, by omega, fun H2 x2 hc => ⟨rfl, ?_⟩⟩
    have ⟨dx, R, rs, e, _⟩ := hc
    refine ⟨c, dx, _, rfl, e, rfl, _, rfl, _, _, rfl, rfl, .inl ⟨by decide, by decide⟩, _, _, rfl, rfl, c, k, 2 * k - 2, 0, ?_, hc, by omega, q1 k rfl (by omega) (by omega) H2 x2⟩
    show [V.ref c, V.int ((2 : Int) * (k : Int) - 2), V.int 0] = _
    rw [show (2 : Int) * (k : Int) - 2 = ((2 * k - 2 : Nat) : Int) by omega]
    rfl
def spFewest (K : PySem.W.Frag) : Sp := fun vs H Q E => ∃ n : Int, vs = [.int n] ∧ (∀ k : Nat, n = k → 1 ≤ k → k ≤ 200 → 1 ≤ few k → ∀ H', Xt (tK K) H H' → Q (.int (nd (few k - 1))) H') ∧ ((∀ k : Nat, n = k → 1 ≤ k → k ≤ 200 → 1 ≤ few k)) ∧ (¬ (1 ≤ n ∧ n ≤ 200) → E (.ref (He.ga K "BadNumber")) none H)
theorem ok_fewest_bits (T : Tx K mg) : OkN P w K mg base ("fewest_bits", none) 4 ["count"] (spFewest K) := by
  refine T.F_fewest_bits.ok sc_fewest_bits (fun vs H Q E h => ?_) (fun cdv A outer s H vs Q E hr h => ?_)
  · obtain ⟨n, rfl, _⟩ := h
    rfl
  · obtain ⟨n, rfl, q1, q2, q3⟩ := h
    refine ⟨_, (pss_one (ps_ret (pe_callS (ok_needs T) (hr.mono (by decide)) (by rfl) T.g_needs T.F_needs.kp T.B_needs psE (pa_cons (pe_op op_sub (pe_callS (ok_how_many T) (hr.mono (by decide)) (by rfl) T.g_how_many T.F_how_many.kp T.B_how_many psE (pa_cons (pv 0) pa_nil)) pe_int) pa_nil)))), ?_⟩
    refine ⟨_, rfl, n, rfl, fun k hk h1 h2 H2 x2 => ?_, q3⟩
    have hp := q2 k hk h1 h2
    refine ⟨_, _, rfl, rfl, _, rfl, fun _ => ?_, fun h => absurd h (by omega)⟩
    rw [show (((few k : Nat) : Int) - 1).toNat = few k - 1 by omega]
    exact q1 k hk h1 h2 hp H2 x2
def spNumberOf (K : PySem.W.Frag) : Sp := fun vs H Q E => ∃ (v : V) (o : Ob), vs = [v] ∧ ObAt K H v o ∧ ht o < 210 ∧
  ((∃ m : List Bool, sgn o 1 = some (true :: (m ++ [false])) ∧ okP m 0 = true ∧ m.length ≤ 398 ∧ ∀ H', Xt (tK K) H H' → Q (.int ((rk m 0 : Nat) : Int)) H') ∨ ((∀ s, sgn o 1 = some s → 400 < s.length) ∧ ∀ H', Xt (tK K) H H' → E (.ref (He.ga K "BadTree")) none H'))
theorem ok_number_of (T : Tx K mg) : OkN P w K mg base ("number_of", none) 212 ["tree"] (spNumberOf K) := by
  refine T.F_number_of.ok sc_number_of (fun vs H Q E h => ?_) (fun cdv A outer s H vs Q E hr h => ?_)
  · obtain ⟨v, o, rfl, _⟩ := h
    rfl
  · obtain ⟨v, o, rfl, ho, hh, hq⟩ := h
    refine ⟨_, (pss_cons (ps_set (i := 1) sc_number_of.nd rfl (.inl rfl) (pe_callS (ok_bits_of T) (hr.mono (by decide)) (by rfl) T.g_bits_of T.F_bits_of.kp T.B_bits_of psE (pa_cons (pv 0) pa_nil)))
    (pss_cons (ps_if (pt_cmpR op_gt (pe_callB call_len_str (by rfl) T.z_len b_len (pa_cons (pv 1) pa_nil)) (pe_op op_mul pe_int (pe_glob (v := .int _) (by rfl) T.c_MOST_COUNT.choose_spec ⟨_, rfl⟩)) (nomark _))
    (pss_one (ps_rz T.x_BadTree rfl (by decide))) pss_nil)
    (pss_cons (ps_set (i := 2) sc_number_of.nd rfl (.inl rfl) (pe_slice sl_str (pv 1) (po_some pe_int) (po_some (pe_un un_neg pe_int))))
    (pss_cons (ps_set (i := 3) sc_number_of.nd rfl (.inl rfl) (pe_make (dvs := []) T.mk_Counts (ok_Counts_init T) (hr.mono (by decide)) (by rfl) T.g_Counts T.B_Counts_init .nil psP (pa_cons (pe_op op_fdiv (pe_callB call_len_str (by rfl) T.z_len b_len (pa_cons (pv 1) pa_nil)) pe_int) pa_nil)))
    (pss_cons (ps_set (i := 4) sc_number_of.nd rfl (.inl rfl) pe_int)
    (pss_cons (ps_set (i := 5) sc_number_of.nd rfl (.inl rfl) pe_int)
    (pss_cons (ps_for (passes_of rfl) rfl (pi_enumSK (K := K) rfl (by rfl) T.z_enumerate (pa_cons (pv 2) pa_nil) (by rfl)) (pg_tupK (K := K) (n := 2) rfl rfl (pgs_cons (pg_name (i := 6) sc_number_of.nd rfl (.inl rfl)) (pgs_cons (pg_name (i := 7) sc_number_of.nd rfl (.inl rfl)) pgs_nil)) (by rfl) (by rfl))
    (pss_one (ps_if (pt_cmpR op_eq (pv 7) pe_str (nomark _))
    (pss_cons (ps_if (pt_cmpR op_gt (pv 5) pe_int (nomark _))
    (pss_one (ps_set (i := 4) sc_number_of.nd rfl (.inl rfl) (pe_op op_add (pv 4) (pe_meth (dvs := []) (pv 3) T.k_Counts T.M_Counts_ways (ok_Counts_ways T) (hr.mono (by decide)) T.B_Counts_ways .nil psP (pa_cons (pe_op op_sub (pe_op op_sub (pe_callB call_len_str (by rfl) T.z_len b_len (pa_cons (pv 2) pa_nil)) (pv 6)) pe_int) (pa_cons (pe_op op_sub (pv 5) pe_int) pa_nil)))))) pss_nil)
    (pss_one (ps_set (i := 5) sc_number_of.nd rfl (.inl rfl) (pe_op op_add (pv 5) pe_int)))) (pss_one (ps_set (i := 5) sc_number_of.nd rfl (.inl rfl) (pe_op op_sub (pv 5) pe_int))))))
    (pss_one (ps_ret (pv 4)))))))))), ?_⟩
    refine ⟨_, rfl, v, o, rfl, ho, hh, fun s hs hsl H1 x1 => ?_, fun hb H1 x1 => ?_⟩
    · have hz : (sb s).length ≤ sizeLine := by rw [sb_len]; exact Nat.le_trans hsl (by decide)
      refine ⟨_, rfl, _, rfl, hz, _, _, rfl, rfl, .inl ⟨by decide, by decide⟩, _, _, rfl, rfl, _, rfl, ite2 (fun h => ?_) (fun h => ?_)⟩
      · have h := of_decide_eq_true h
        rw [sb_len] at h
        rcases hq with ⟨m, hm, _, hl, _⟩ | ⟨_, q⟩
        · rw [hm] at hs
          cases hs
          rw [List.length_cons, List.length_append, List.length_singleton] at h
          omega
        · exact q H1 x1.up
      · rcases hq with ⟨m, hm, hok, hl, q⟩ | ⟨hb, _⟩
        · rw [hm] at hs
          cases hs
          have hev := okP_even m 0 hok
          obtain ⟨n, hn⟩ : ∃ n, m.length = 2 * n := ⟨m.length / 2, by omega⟩
          have hlen : (sb (true :: (m ++ [false]))).length = 2 * n + 2 := by rw [sb_len, List.length_cons, List.length_append, List.length_singleton, hn]
          refine ⟨_, rfl, _, rfl, _, rfl, _, rfl, _, rfl, hz, ?_⟩
          refine gv (v := .str (S (m.map bc))) (congrArg V.str (cut_in m)) ?_
          refine ⟨_, rfl, _, rfl, hz, _, _, rfl, rfl, ⟨by decide, by decide⟩, fun c dc hcn hdn hne => ?_⟩
          have xm : Xt (tK K) H1 (upd (upd H1 dc (.own c)) c (.ins (He.ga K "Counts") dc [])) := (Xt.new hdn).trans (.new (by rw [upd_ne (Ne.symm hne)]; exact hcn))
          refine ⟨H1, c, dc, n + 1, ?_, xm, .of hcn, upd_same .., by omega, by omega, fun H2 x2 hc => ⟨rfl, ?_⟩⟩
          · rw [hlen]
            show [V.ref c, V.int (((2 * n + 2 : Nat) : Int) / 2)] = _
            rw [show ((2 * n + 2 : Nat) : Int) / 2 = ((n + 1 : Nat) : Int) by omega]
          have x2 := x1.up.trans x2
          refine ⟨_, rfl, _, rfl, for_it w_enumS (fun i σ H' => Xt (tK K) H H' ∧ CntAt K H' c (n + 1) ∧ ∃ (d f : Nat) (t6 t7 : Option V), okP (m.drop i) d = true ∧ f + rk (m.drop i) d = rk m 0 ∧ σ = [some v, some (.str (sb (true :: (m ++ [false])))), some (.str (S (m.map bc))), some (.ref c), some (.int f), some (.int d), t6, t7])
            ⟨x2, hc, 0, 0, _, _, hok, Nat.zero_add _, rfl⟩ (fun _ _ _ _ _ => trivial) ?_ ?_⟩
          · intro i x σ Ha Hb hi hp hy
            obtain ⟨xa, hc, d, f, t6, t7, hok, hf, rfl⟩ := hp
            obtain ⟨p, k, rfl, np, rfl, hk⟩ := hy
            rw [List.getElem?_map] at hk
            obtain ⟨b, hb, rfl⟩ := Option.map_eq_some_iff.mp hk
            have hi : i < m.length := (List.getElem?_eq_some_iff.mp hb).1
            have hdr : m.drop i = b :: m.drop (i + 1) := by
              rw [List.drop_eq_getElem_cons hi]
              congr 1
              exact Option.some.inj ((List.getElem?_eq_getElem hi).symm.trans hb)
            rw [hdr] at hok hf
            generalize hH : upd Ha p _ = Hc
            have xc : Xt (tK K) Ha Hc := newE hH np
            have ep := atE hH
            clear hH
            have hc := hc.xg xc
            have xa := xa.trans xc
            refine ⟨p, _, rfl, .inl (.inl ep), rfl, _, _, rfl, _, _, rfl, rfl, ?_⟩
            cases b with
            | true =>
              refine ⟨_, rfl, rfl, _, rfl, ite2 (fun _ => ?_) (fun h => absurd (decide_eq_true (congrArg V.str (by decide +kernel))) h)⟩
              cases d with
              | zero =>
                refine ⟨_, rfl, _, _, rfl, rfl, _, rfl, ite2 (fun h => absurd h (by decide)) (fun _ => ?_)⟩
                refine ⟨_, rfl, _, _, rfl, rfl, xa, hc, 1, f, _, _, hok, ?_, rfl⟩
                have e : f + (0 + rk (m.drop (i + 1)) 1) = rk m 0 := hf
                omega
              | succ d =>
                refine ⟨_, rfl, _, _, rfl, rfl, _, rfl, ite2 (fun _ => ?_) (fun h => absurd (decide_eq_true (show ((d + 1 : Nat) : Int) > 0 by omega)) h)⟩
                have ⟨dx, R, rs, ec, _⟩ := hc
                have ez : (S (m.map bc)).length = m.length := by rw [S_len, List.length_map]
                refine ⟨_, rfl, _, rfl, c, dx, _, rfl, ec, rfl, _, rfl, _, rfl, by rw [ez]; exact Nat.le_trans hl (by decide), _, rfl, _, _, rfl, rfl, _, _, rfl, rfl, _, rfl, _, _, rfl, rfl, c, n + 1, m.length - i - 1, d, ?_, hc, by omega, _, _, rfl, rfl, ?_⟩
                · show [V.ref c, V.int (((S (m.map bc)).length : Int) - (i : Int) - 1), V.int (((d + 1 : Nat) : Int) - 1)] = _
                  rw [ez, show ((m.length : Nat) : Int) - (i : Int) - 1 = ((m.length - i - 1 : Nat) : Int) by omega, show ((d + 1 : Nat) : Int) - 1 = (d : Int) by omega]
                refine ⟨_, rfl, _, _, rfl, rfl, xa, hc, d + 2, f + wy (m.length - i - 1) d, _, _, hok, ?_, rfl⟩
                have e : f + (wy (m.drop (i + 1)).length d + rk (m.drop (i + 1)) (d + 2)) = rk m 0 := hf
                rw [List.length_drop, show m.length - (i + 1) = m.length - i - 1 by omega] at e
                omega
            | false =>
              refine ⟨_, rfl, rfl, _, rfl, ite2 (fun h => absurd h ?_) (fun _ => ?_)⟩
              · rw [decide_eq_false]
                · decide
                · intro z
                  injection z with z
                  exact absurd z (by decide +kernel)
              cases d with
              | zero => cases hok
              | succ d =>
                refine ⟨_, rfl, _, _, rfl, rfl, ?_⟩
                exact gv (v := .int (d : Int)) (show V.int (((d + 1 : Nat) : Int) - 1) = V.int (d : Int) from congrArg V.int (by omega)) ⟨xa, hc, d, f, _, _, hok, hf, rfl⟩
          · intro σ Ha hp
            obtain ⟨xa, hc, d, f, t6, t7, hok, hf, rfl⟩ := hp
            rw [List.drop_of_length_le (by rw [List.length_map]; exact Nat.le_refl _)] at hf
            have e : f = rk m 0 := hf
            rw [← e] at q
            exact ⟨_, rfl, q Ha xa⟩
        · exact absurd (hb s hs) (by rw [← sb_len]; exact fun z => h (decide_eq_true (by omega)))
    · rcases hq with ⟨m, hm, _, hl, _⟩ | ⟨_, q⟩
      · have := hb _ hm
        rw [List.length_cons, List.length_append, List.length_singleton] at this
        omega
      · exact q H1 x1.up
def spTreeAt (K : PySem.W.Frag) : Sp := fun vs H Q E => ∃ n k : Int, vs = [.int n, .int k] ∧
  ((∃ N j : Nat, n = N ∧ k = j ∧ 1 ≤ N ∧ N ≤ 200 ∧ j < few N ∧ ∀ H' v f, Xt (tK K) H H' → ObAt K H' v (.li f) → isTL f = true → btT (.li f) = true :: (ur (2 * N - 2) 0 j ++ [false]) → Q v H') ∨
   ((k < 0 ∨ ¬ (1 ≤ n ∧ n ≤ 200) ∨ ∀ N : Nat, n = N → ((few N : Nat) : Int) ≤ k) ∧ ∀ H', Xt (tK K) H H' → E (.ref (He.ga K "BadNumber")) none H'))
theorem ok_tree_at (T : Tx K mg) : OkN P w K mg base ("tree_at", none) 4 ["count", "number"] (spTreeAt K) := by
  refine T.F_tree_at.ok sc_tree_at (fun vs H Q E h => ?_) (fun cdv A outer s H vs Q E hr h => ?_)
  · obtain ⟨n, k, rfl, _⟩ := h
    rfl
  · obtain ⟨n, k, rfl, hq⟩ := h
    refine ⟨_, (pss_cons (ps_if (pt_not (pt_chain op_le op_lt pe_int (pv 1) (pe_callS (ok_how_many T) (hr.mono (by decide)) (by rfl) T.g_how_many T.F_how_many.kp T.B_how_many psE (pa_cons (pv 0) pa_nil))))
    (pss_one (ps_rz T.x_BadNumber rfl (by decide))) pss_nil)
    (pss_cons (ps_set (i := 2) sc_tree_at.nd rfl (.inl rfl) (pe_make (dvs := []) T.mk_Counts (ok_Counts_init T) (hr.mono (by decide)) (by rfl) T.g_Counts T.B_Counts_init .nil psP (pa_cons (pv 0) pa_nil)))
    (pss_cons (ps_set (i := 3) sc_tree_at.nd rfl (.inl rfl) pe_str)
    (pss_cons (ps_set (i := 4) sc_tree_at.nd rfl (.inl rfl) pe_int)
    (pss_cons (ps_for (passes_of rfl) rfl (pi_reversedK (K := K) rfl (by rfl) T.z_reversed (pa_cons (pe_listRg rfl (by rfl) T.z_list (prg_1 (by rfl) T.z_range (pe_op op_sub (pe_op op_mul pe_int (pv 0)) pe_int))) pa_nil) (by rfl)) (pg_name (i := 5) sc_tree_at.nd rfl (.inl rfl))
    (pss_cons (ps_set (i := 6) sc_tree_at.nd rfl (.inl rfl) (pe_ifExp (pt_cmpR op_gt (pv 4) pe_int (nomark _)) (pe_meth (dvs := []) (pv 2) T.k_Counts T.M_Counts_ways (ok_Counts_ways T) (hr.mono (by decide)) T.B_Counts_ways .nil psP (pa_cons (pv 5) (pa_cons (pe_op op_sub (pv 4) pe_int) pa_nil))) pe_int))
    (pss_one (ps_if (pt_cmpR op_lt (pv 1) (pv 6) (nomark _))
    (pss_cons (ps_set (i := 3) sc_tree_at.nd rfl (.inl rfl) (pe_op op_add_str (pv 3) pe_str))
    (pss_one (ps_set (i := 4) sc_tree_at.nd rfl (.inl rfl) (pe_op op_sub (pv 4) pe_int)))) (pss_cons (ps_set (i := 1) sc_tree_at.nd rfl (.inl rfl) (pe_op op_sub (pv 1) (pv 6)))
    (pss_cons (ps_set (i := 3) sc_tree_at.nd rfl (.inl rfl) (pe_op op_add_str (pv 3) pe_str))
    (pss_one (ps_set (i := 4) sc_tree_at.nd rfl (.inl rfl) (pe_op op_add (pv 4) pe_int)))))))))
    (pss_one (ps_ret (pe_callS (ok_tree_of T) (hr.mono (by decide)) (by rfl) T.g_tree_of T.F_tree_of.kp T.B_tree_of psE (pa_cons (pe_op op_add_str (pe_op op_add_str pe_str (pv 3)) pe_str) pa_nil))))))))), ?_⟩
    refine ⟨_, rfl, _, _, rfl, rfl, _, rfl, ite2 (fun h0 => ?_) (fun h0 => ?_)⟩
    · have h0 := of_decide_eq_true h0
      refine ⟨_, rfl, n, rfl, fun N hN h1 h2 H1 x1 => ?_, fun hbad => ?_⟩
      · subst hN
        refine ⟨_, _, rfl, rfl, _, rfl, ite2 (fun h3 => ?_) (fun h3 => ?_)⟩
        · rcases hq with ⟨N', j, eN, rfl, _, _, hj, _⟩ | ⟨_, q⟩
          · have eN : N = N' := by omega
            subst eN
            rw [decide_eq_true (show (j : Int) < ((few N : Nat) : Int) by omega)] at h3
            cases h3
          · exact q H1 x1
        · have hk : k < ((few N : Nat) : Int) := by
            by_cases z : k < ((few N : Nat) : Int)
            · exact z
            · exact absurd (show (!decide (k < ((few N : Nat) : Int))) = true by rw [decide_eq_false z]; rfl) h3
          rcases hq with ⟨N', j, eN, rfl, _, _, hj, q⟩ | ⟨hbad, _⟩
          · have eN : N = N' := by omega
            subst eN
            refine ⟨_, rfl, fun c dc hcn hdn hne => ?_⟩
            have xm : Xt (tK K) H1 (upd (upd H1 dc (.own c)) c (.ins (He.ga K "Counts") dc [])) := (Xt.new hdn).trans (.new (by rw [upd_ne (Ne.symm hne)]; exact hcn))
            refine ⟨H1, c, dc, N, rfl, xm, .of hcn, upd_same .., by omega, by omega, fun H2 x2 hc => ⟨rfl, ?_⟩⟩
            have x2 := x1.trans x2
            clear xm hcn hdn hne
            have hM : ((2 : Int) * (N : Int) - 2 - 0).toNat = 2 * N - 2 := by omega
            refine ⟨_, rfl, _, _, rfl, rfl, .inl ⟨by decide, by decide⟩, _, _, rfl, rfl, _, rfl, RgOk.of_le (by decide) (by omega) (by decide) (by omega), fun p np => ?_⟩
            generalize hH : upd H2 p _ = H3
            have x3 : Xt (tK K) H2 H3 := newE hH np
            have ep := atE hH
            clear hH np
            have hc := hc.xg x3
            have x3 := x2.trans x3
            have lv : (rgV 0 (2 * (N : Int) - 2)).length = 2 * N - 2 := by rw [rgV_length, hM]
            refine ⟨p, _, rfl, SqL.of ep, for_it walk_rev (fun i σ H' => Xt (tK K) H3 H' ∧ CntAt K H' c N ∧ ∃ (b : List Bool) (d r : Nat) (t5 t6 : Option V), b ++ ur (2 * N - 2 - i) d r = ur (2 * N - 2) 0 j ∧ r < wy (2 * N - 2 - i) d ∧ b.length = i ∧ σ = [some (.int N), some (.int r), some (.ref c), some (.str (sb b)), some (.int d), t5, t6])
              ⟨.refl, hc, [], 0, j, _, _, rfl, hj, rfl, by rw [← sb_nil]; rfl⟩ (fun _ _ _ _ h => SqL.of (h.1.lst ep)) ?_ ?_⟩
            · intro i x σ Ha Hb hi hp hy
              obtain ⟨xa, hc, b, d, r, t5, t6, hb, hr, hbl, rfl⟩ := hp
              obtain ⟨rfl, hx⟩ := hy
              rw [lv] at hi hx
              obtain ⟨L, hL⟩ : ∃ L, 2 * N - 2 - i = L + 1 := ⟨2 * N - 2 - i - 1, by omega⟩
              have hx : x = .int (L : Int) := by
                unfold rgV at hx
                rw [hM, List.getElem?_map, List.getElem?_range (by omega)] at hx
                have e := Option.some.inj hx
                rw [← e]
                exact congrArg V.int (by omega)
              subst hx
              rw [hL] at hb hr
              rw [wy_step] at hr
              have ⟨dx, R, rs, ec, _⟩ := hc
              refine ⟨_, rfl, _, _, rfl, rfl, _, rfl, ?_⟩
              apply via (P := fun H' => H' = Hb)
              · intro k
                refine ite2 (fun h => ?_) (fun h => ?_)
                · have h := of_decide_eq_true h
                  refine ⟨_, rfl, c, dx, _, rfl, ec, rfl, _, rfl, _, rfl, _, _, rfl, rfl, c, N, L, d - 1, ?_, hc, by omega, ?_⟩
                  · show [V.ref c, V.int (L : Int), V.int ((d : Int) - 1)] = _
                    rw [show (d : Int) - 1 = ((d - 1 : Nat) : Int) by omega]
                  · refine gv (v := .int ((dn L d : Nat) : Int)) ?_ (k _ rfl)
                    cases d with
                    | zero => exact absurd h (by decide)
                    | succ d => rfl
                · have hd : d = 0 := by
                    by_cases z : d = 0
                    · exact z
                    · exact absurd (decide_eq_true (show (d : Int) > 0 by omega)) h
                  refine gv (v := .int ((dn L d : Nat) : Int)) ?_ (k _ rfl)
                  rw [hd]
                  rfl
              · rintro H' rfl
                have lz : (sb b).length + 1 ≤ sizeLine := by rw [sb_len, hbl]; exact Nat.le_trans (show i + 1 ≤ 400 by omega) (by decide)
                refine ⟨_, rfl, _, rfl, _, _, rfl, rfl, _, rfl, ite2 (fun h => ?_) (fun h => ?_)⟩
                · have h := of_decide_eq_true h
                  have h : r < dn L d := by omega
                  rw [show ur (L + 1) d r = if r < dn L d then false :: ur L (d - 1) r else true :: ur L (d + 1) (r - dn L d) from rfl, if_pos h] at hb
                  cases d with
                  | zero => exact absurd h (Nat.not_lt_zero _)
                  | succ d =>
                    refine ⟨_, rfl, _, _, rfl, rfl, by exact lz, ?_⟩
                    refine gv (v := .str (sb (b ++ [false]))) (congrArg V.str (by rw [← sb_app, ← sb_0])) ?_
                    refine ⟨_, rfl, _, _, rfl, rfl, ?_⟩
                    refine gv (v := .int (d : Int)) (show V.int (((d + 1 : Nat) : Int) - 1) = V.int (d : Int) from congrArg V.int (by omega)) ?_
                    refine ⟨xa, hc, b ++ [false], d, r, _, _, ?_, ?_, by rw [List.length_append, hbl]; rfl, rfl⟩
                    · rw [show 2 * N - 2 - (i + 1) = L by omega, List.append_assoc]
                      exact hb
                    · rw [show 2 * N - 2 - (i + 1) = L by omega]
                      exact h
                · have h : ¬ r < dn L d := fun z => h (decide_eq_true (by omega))
                  rw [show ur (L + 1) d r = if r < dn L d then false :: ur L (d - 1) r else true :: ur L (d + 1) (r - dn L d) from rfl, if_neg h] at hb
                  refine ⟨_, rfl, _, rfl, _, _, rfl, rfl, ?_⟩
                  refine gv (v := .int ((r - dn L d : Nat) : Int)) (show V.int ((r : Int) - ((dn L d : Nat) : Int)) = _ from congrArg V.int (by omega)) ?_
                  refine ⟨_, rfl, _, _, rfl, rfl, by exact lz, ?_⟩
                  refine gv (v := .str (sb (b ++ [true]))) (congrArg V.str (by rw [← sb_app, ← sb_1])) ?_
                  refine ⟨_, rfl, _, _, rfl, rfl, xa, hc, b ++ [true], d + 1, r - dn L d, _, _, ?_, ?_, by rw [List.length_append, hbl]; rfl, rfl⟩
                  · rw [show 2 * N - 2 - (i + 1) = L by omega, List.append_assoc]
                    exact hb
                  · rw [show 2 * N - 2 - (i + 1) = L by omega]
                    omega
            · intro σ Ha hp
              obtain ⟨xa, hc, b, d, r, t5, t6, hb, hr, hbl, rfl⟩ := hp
              rw [lv, Nat.sub_self] at hb hr
              rw [lv] at hbl
              have hb : b = ur (2 * N - 2) 0 j := by rw [← hb]; exact (List.append_nil b).symm
              have hok := ur_ok (2 * N - 2) 0 j hj
              rw [← hb] at q hok
              have l1 : ("1" : Str).length = 1 := by decide +kernel
              have l0 : ("0" : Str).length = 1 := by decide +kernel
              have e : (Str.ofString "1" : Str) ++ sb b ++ (Str.ofString "0" : Str) = sb (true :: (b ++ [false])) := by
                rw [sb_1, sb_0, sb_app, sb_app]
                rfl
              have le : (sb (true :: (b ++ [false]))).length = 2 * N := by
                rw [sb_len, List.length_cons, List.length_append, List.length_singleton]
                omega
              have lb : (sb b).length ≤ 400 := by rw [sb_len]; omega
              have fit : ∀ k, k ≤ 1000 → k ≤ sizeLine := fun k h => Nat.le_trans h (by decide)
              refine ⟨_, rfl, _, _, rfl, rfl, fit _ (by rw [l1]; omega), _, _, rfl, rfl, fit _ (by rw [len_app, l1, l0]; omega), sb (true :: (b ++ [false])), ?_, by rw [le]; omega, fun l hl ok hle H' v f x o hT hbt => ?_, fun hbad => ?_⟩
              · show [V.str ((Str.ofString "1" : Str) ++ sb b ++ (Str.ofString "0" : Str))] = _
                rw [e]
              · have el := sb_inj hl
                subst el
                exact q H' v f ((x3.trans xa).trans x.up) o hT hbt
              · have := hbad _ rfl (okT_in hok (by omega))
                rw [← sb_len, le] at this
                omega
          · rcases hbad with z | z | z
            · omega
            · exact absurd ⟨by omega, by omega⟩ z
            · have := z N rfl
              omega
      · rcases hq with ⟨N', j, rfl, _, _⟩ | ⟨_, q⟩
        · omega
        · exact q H .refl
    · rcases hq with ⟨N', j, _, rfl, _⟩ | ⟨_, q⟩
      · exact absurd (decide_eq_true (show (0 : Int) ≤ (j : Int) by omega)) h0
      · exact ⟨_, rfl, iteT (q H .refl)⟩
end
end Tw

set_option maxHeartbeats 4000000
namespace Tw
open PySem PySem.Spec PyProof.Rows L2 LamX
section
variable {P : Program} {w : World} {K : PySem.W.Frag} {mg : Str → Option Value} {base : Heap}
def spLHow (K : PySem.W.Frag) : Sp := fun vs H Q E => ∃ n : Nat, vs = [.int n] ∧ 1 ≤ n ∧ n ≤ 40 ∧ ∀ H', Xt (tK K) H H' → Q (.int ((few n : Nat) : Int)) H'
theorem ok__law_how_many (T : Tx K mg) : OkN P w K mg base ("_law_how_many", none) 1 ["_law_many"] (spLHow K) := by
  refine T.F__law_how_many.ok sc__law_how_many (fun vs H Q E h => ?_) (fun cdv A outer s H vs Q E hr h => ?_)
  · obtain ⟨n, rfl, _⟩ := h
    rfl
  · obtain ⟨n, rfl, h1, h2, q⟩ := h
    refine ⟨_, (pss_cons (ps_set (i := 1) sc__law_how_many.nd rfl (.inr rfl) (pe_lst (pa_cons pe_int (pa_cons pe_int pa_nil))))
    (pss_cons (ps_for (passes_of rfl) rfl (pi_range2 (by rfl) T.z_range (pa_cons pe_int (pa_cons (pe_op op_add (pv 0) pe_int) pa_nil))) (pg_name (i := 2) sc__law_how_many.nd rfl (.inr rfl))
    (pss_one (ps_expr (pe_bmK (K := K) rfl F.plainAttrs_list F.slot_list_append F.type_list_append mt_append (pv 1) (pa_cons (pe_callB (cr_sumK (K := K) rfl rfl) (by rfl) T.z_sum b_sum (pa_cons (pe_lc (own := [("_law_one", 3)]) rfl sc__law_how_many.nd (pi_range2 (by rfl) T.z_range (pa_cons pe_int (pa_cons (pv 2) pa_nil))) (blkOk_by (N := N__law_how_many) (sc := defScope s__law_how_many) (by decide +kernel)) (fun _ _ _ _ _ => (pg_name (i := 3) sc__law_how_many.nd rfl (.inl rfl))) (fun _ _ _ _ _ => pts_nil) (fun _ _ _ _ _ => (pe_op op_mul (pe_ix (ix_listK (K := K) rfl) (pv 1) (pv 3) (fun _ _ => rfl)) (pe_ix (ix_listK (K := K) rfl) (pv 1) (pe_op op_sub (pv 2) (pv 3)) (fun _ _ => rfl))))) pa_nil)) pa_nil) (by rfl) (by rfl) (by rfl) (by rfl) (by rfl)))))
    (pss_one (ps_ret (pe_ix (ix_listK (K := K) rfl) (pv 1) (pv 0) (fun _ _ => rfl)))))), ?_⟩
    refine ⟨by exact (by decide : 2 ≤ sizeLine), fun p np => ?_⟩
    generalize hH : upd H p _ = H1
    have x1 : Xt (tK K) H H1 := newE hH np
    have ep : H1 p = some (.lst ((catL 0).map fun x : Nat => V.int (x : Int))) := atE hH
    have np0 : Nw H p := .of np
    clear hH np
    have ek : ((n : Int) + 1 - 2).toNat = n - 1 := by omega
    refine ⟨_, rfl, _, _, rfl, rfl, _, _, rfl, ⟨by omega, by omega, by omega, by omega⟩, for_it w_range (fun i σ H' => Xt (tK K) H H' ∧ H' p = some (.lst ((catL i).map fun x : Nat => V.int (x : Int))) ∧ ∃ t2 t3, σ = [some (.int n), some (.ref p), t2, t3]) ⟨x1, ep, _, _, rfl⟩ (fun _ _ _ _ _ => trivial) ?_ ?_⟩
    · intro i x σ Ha Hb hi hp hy
      obtain ⟨xa, ep, t2, t3, rfl⟩ := hp
      obtain ⟨rfl, rfl⟩ := hy
      have hi : i < n - 1 := by omega
      have ej : ((2 : Int) + (i : Int) - 1).toNat = i + 1 := by omega
      refine ⟨_, rfl, .inl ⟨rfl, _, SqL.of ep⟩, _, rfl, _, _, rfl, ⟨by omega, by omega, by omega, by omega⟩, fun D hD => lcP (T := tK K) w_range hD (by omega) (fun _ _ => trivial) (fun j => .int (((catL i).getD (1 + j) 0 * (catL i).getD (i + 2 - (1 + j)) 0 : Nat) : Int)) ?_ fun H2 x2 e2 => ?_⟩
      · intro j x H' hj hy x1 Q q
        obtain rfl := hy
        have hj : j < i + 1 := by omega
        have ep := x1.lst ep
        have cm : CMul ((((catL i).getD (1 + j) 0 : Nat) : Int)) ((((catL i).getD (i + 2 - (1 + j)) 0 : Nat) : Int)) := by
          by_cases h : 1 + j ≤ 20
          · have b := cat_small (1 + j) h
            rw [catL_pre i 39 (1 + j) (by omega) (by omega)] at b
            exact .inl ⟨by omega, by omega⟩
          · have b := cat_small (i + 2 - (1 + j)) (by omega)
            rw [catL_pre i 39 (i + 2 - (1 + j)) (by omega) (by omega)] at b
            exact .inr ⟨by omega, by omega⟩
        refine ⟨_, rfl, _, rfl, p, _, _, .int (((catL i).getD (1 + j) 0 : Nat) : Int), rfl, rfl, SqL.of ep, ?_, _, rfl, _, rfl, _, rfl, _, _, rfl, rfl, p, _, _, .int (((catL i).getD (i + 2 - (1 + j)) 0 : Nat) : Int), rfl, rfl, SqL.of ep, ?_, _, _, rfl, rfl, cm, ?_⟩
        · rw [show (1 : Int) + (j : Int) = ((1 + j : Nat) : Int) by omega]
          exact atI_nat (catV_at (by omega))
        · show atI _ ((2 : Int) + (i : Int) - (1 + (j : Int))) = _
          rw [show (2 : Int) + (i : Int) - (1 + (j : Int)) = ((i + 2 - (1 + j) : Nat) : Int) by omega]
          exact atI_nat (catV_at (by omega))
        · have e : (V.int ((((catL i).getD (1 + j) 0 : Nat) : Int) * (((catL i).getD (i + 2 - (1 + j)) 0 : Nat) : Int))) = .int (((catL i).getD (1 + j) 0 * (catL i).getD (i + 2 - (1 + j)) 0 : Nat) : Int) := congrArg V.int (Int.natCast_mul _ _).symm
          show Q (V.int ((((catL i).getD (1 + j) 0 : Nat) : Int) * (((catL i).getD (i + 2 - (1 + j)) 0 : Nat) : Int))) H'
          rw [e]
          exact q _ .refl
      · rw [ej] at e2
        have ep2 := x2.lst ep
        refine ⟨D, ((List.range (i + 1)).map fun j => (catL i).getD (1 + j) 0 * (catL i).getD (i + 2 - (1 + j)) 0).map (fun k : Nat => (k : Int)), rfl, SqL.of (by rw [e2, List.map_map, List.map_map]; rfl), p, _, _, rfl, rfl, ep2, ?_, (xa.trans x2).mut np0 ep2, ?_, _, _, rfl⟩
        · rw [List.length_map, catL_len]
          exact Nat.lt_of_lt_of_le (show i + 2 < 100000 by omega) (by decide)
        · rw [upd_same]
          show _ = some (HO.lst ((catL i ++ [_]).map _))
          rw [List.map_append]
          refine congrArg (fun v => some (HO.lst (_ ++ [V.int v]))) ?_
          exact cast_sum _
    · intro σ Ha hp
      obtain ⟨xa, ep, t2, t3, rfl⟩ := hp
      rw [ek] at ep
      refine ⟨_, rfl, _, rfl, p, _, _, .int ((few n : Nat) : Int), rfl, rfl, SqL.of ep, ?_, q Ha xa⟩
      rw [← cat_few h1 h2 (n - 1) (by omega) (by omega)]
      exact atI_nat (catV_at (by omega))
def CellV (H : Hp) (c : Cell) (v : V) : Prop := ∃ t, v = .ref t ∧ H t = some (.tup [.str (sb c.1), .int ((c.2.1 : Nat) : Int), .int ((c.2.2 : Nat) : Int)])
def CellsV (H : Hp) (cs : List Cell) (vs : List V) : Prop := vs.length = cs.length ∧ ∀ (i : Nat) (c : Cell) (v : V), cs[i]? = some c → vs[i]? = some v → CellV H c v
section
variable {lo : Prop} {T : List (Addr × Str)} {H H' : Hp} {cs : List Cell} {vs : List V} {c : Cell} {v : V}
theorem CellV.xg (h : CellV H c v) (x : Xg lo T H H') : CellV H' c v := by
  obtain ⟨t, e, h⟩ := h
  exact ⟨t, e, x.tup h⟩
theorem CellsV.xg (h : CellsV H cs vs) (x : Xg lo T H H') : CellsV H' cs vs := ⟨h.1, fun i c v h1 h2 => (h.2 i c v h1 h2).xg x⟩
theorem CellsV.snoc (h : CellsV H cs vs) (hc : CellV H c v) : CellsV H (cs ++ [c]) (vs ++ [v]) := by
  refine ⟨by rw [List.length_append, List.length_append, h.1]; rfl, fun i d u h1 h2 => ?_⟩
  by_cases hi : i < cs.length
  · rw [List.getElem?_append_left hi] at h1
    rw [List.getElem?_append_left (by rw [h.1]; exact hi)] at h2
    exact h.2 i d u h1 h2
  · rw [List.getElem?_append_right (by omega)] at h1
    rw [List.getElem?_append_right (by rw [h.1]; omega), h.1] at h2
    cases hk : i - cs.length with
    | zero =>
      rw [hk] at h1 h2
      cases h1
      cases h2
      exact hc
    | succ k =>
      rw [hk] at h1
      cases h1
theorem CellsV.mut {p : Addr} {xs ys : List V} (h : CellsV H cs vs) (e : H p = some (.lst xs)) : CellsV (upd H p (.lst ys)) cs vs := ⟨h.1, fun i c v h1 h2 => by
  obtain ⟨t, e1, e2⟩ := h.2 i c v h1 h2
  have : t ≠ p := fun z => by rw [z, e] at e2; cases e2
  exact ⟨t, e1, by rw [upd_ne this]; exact e2⟩⟩
theorem CellV.mut {p : Addr} {xs ys : List V} (h : CellV H c v) (e : H p = some (.lst xs)) : CellV (upd H p (.lst ys)) c v := by
  obtain ⟨t, e1, e2⟩ := h
  have : t ≠ p := fun z => by rw [z, e] at e2; cases e2
  exact ⟨t, e1, by rw [upd_ne this]; exact e2⟩
theorem CellsV.get {i : Nat} (h : CellsV H cs vs) (hv : vs[i]? = some v) : ∃ c, cs[i]? = some c ∧ CellV H c v := by
  have hi : i < vs.length := (List.getElem?_eq_some_iff.mp hv).1
  have hc : cs[i]? = some (cs[i]'(by rw [← h.1]; exact hi)) := List.getElem?_eq_getElem _
  exact ⟨_, hc, h.2 i _ v hc hv⟩
end
theorem take_flat {α β : Type} {f : α → List β} {l : List α} {i : Nat} {c : α} (h : l[i]? = some c) : (l.take (i + 1)).flatMap f = (l.take i).flatMap f ++ f c := by
  rw [List.take_add_one, h, List.flatMap_append]
  show _ ++ List.flatMap f [c] = _
  rw [List.flatMap_cons, List.flatMap_nil, List.append_nil]
theorem take_filt {α : Type} {f : α → Bool} {l : List α} {i : Nat} {c : α} (h : l[i]? = some c) : (l.take (i + 1)).filter f = (l.take i).filter f ++ (if f c then [c] else []) := by
  rw [List.take_add_one, h, List.filter_append]
  refine congrArg _ ?_
  show List.filter f [c] = _
  rw [List.filter_cons]
  rfl
def goodC (m : Nat) (c : Cell) : Bool := c.2.1 == 1 && c.2.2 == m
def spLAll (K : PySem.W.Frag) : Sp := fun vs H Q E => ∃ n : Nat, vs = [.int n] ∧ 1 ≤ n ∧ n < 8 ∧ ∀ H' a, Xt (tK K) H H' → H' a = some (.lst ((trees n).map fun l => V.str (sb l))) → Q (.ref a) H'
theorem ok__law_all (T : Tx K mg) : OkN P w K mg base ("_law_all", none) 1 ["_law_many"] (spLAll K) := by
  refine T.F__law_all.ok sc__law_all (fun vs H Q E h => ?_) (fun cdv A outer s H vs Q E hr h => ?_)
  · obtain ⟨n, rfl, _⟩ := h
    rfl
  · obtain ⟨n, rfl, h1, h2, q⟩ := h
    refine ⟨_, (pss_cons (ps_set (i := 1) sc__law_all.nd rfl (.inl rfl) (pe_lst (pa_cons (pe_tup (pa_cons pe_str (pa_cons pe_int (pa_cons pe_int pa_nil)))) pa_nil)))
    (pss_cons (ps_for (passes_of rfl) rfl (pi_range1 (by rfl) T.z_range (pa_cons (pe_op op_sub (pe_op op_mul pe_int (pv 0)) pe_int) pa_nil)) (pg_name (i := 2) sc__law_all.nd rfl (.inl rfl))
    (pss_cons (ps_set (i := 3) sc__law_all.nd rfl (.inl rfl) (pe_lst pa_nil))
    (pss_cons (ps_for (passes_of rfl) rfl (pi_listK (K := K) rfl (pv 1)) (pg_tupK (K := K) (n := 3) rfl rfl (pgs_cons (pg_name (i := 4) sc__law_all.nd rfl (.inl rfl)) (pgs_cons (pg_name (i := 5) sc__law_all.nd rfl (.inl rfl)) (pgs_cons (pg_name (i := 6) sc__law_all.nd rfl (.inl rfl)) pgs_nil))) (by rfl) (by rfl))
    (pss_cons (ps_if (pt_cmpR op_lt (pv 6) (pv 0) (nomark _))
    (pss_one (ps_expr (pe_bmK (K := K) rfl F.plainAttrs_list F.slot_list_append F.type_list_append mt_append (pv 3) (pa_cons (pe_tup (pa_cons (pe_op op_add_str (pv 4) pe_str) (pa_cons (pe_op op_add (pv 5) pe_int) (pa_cons (pe_op op_add (pv 6) pe_int) pa_nil)))) pa_nil) (by rfl) (by rfl) (by rfl) (by rfl) (by rfl)))) pss_nil)
    (pss_one (ps_if (pt_cmpR op_gt (pv 5) pe_int (nomark _))
    (pss_one (ps_expr (pe_bmK (K := K) rfl F.plainAttrs_list F.slot_list_append F.type_list_append mt_append (pv 3) (pa_cons (pe_tup (pa_cons (pe_op op_add_str (pv 4) pe_str) (pa_cons (pe_op op_sub (pv 5) pe_int) (pa_cons (pv 6) pa_nil)))) pa_nil) (by rfl) (by rfl) (by rfl) (by rfl) (by rfl)))) pss_nil))))
    (pss_one (ps_set (i := 1) sc__law_all.nd rfl (.inl rfl) (pv 3))))))
    (pss_one (ps_ret (pe_callB (cr_sortSK (K := K) rfl) (by rfl) T.z_sorted b_sorted (pa_cons (pe_lc (own := [("_law_bits_here", 4), ("_law_deep", 5), ("_law_ones", 6)]) rfl sc__law_all.nd (pi_listK (K := K) rfl (pv 1)) (blkOk_by (N := N__law_all) (sc := defScope s__law_all) (by decide +kernel)) (fun _ _ _ _ _ => (pg_tupK (K := K) (n := 3) rfl rfl (pgs_cons (pg_name (i := 4) sc__law_all.nd rfl (.inl rfl)) (pgs_cons (pg_name (i := 5) sc__law_all.nd rfl (.inl rfl)) (pgs_cons (pg_name (i := 6) sc__law_all.nd rfl (.inl rfl)) pgs_nil))) (by rfl) (by rfl))) (fun _ _ _ _ _ => (pts_one (PW.pt (pw_and (pt_cmpR op_eq (pv 5) pe_int (nomark _)) (pw_and1 (pt_cmpR op_eq (pv 6) (pv 0) (nomark _))))))) (fun _ _ _ _ _ => (pe_op op_add_str (pv 4) pe_str))) pa_nil)))))), ?_⟩
    have lim : ∀ k, k ≤ 100000 → k ≤ sizeLine := fun k h => Nat.le_trans h (by decide)
    refine ⟨by exact (by decide : 3 ≤ sizeLine), fun t nt => ?_⟩
    generalize hH : upd H t _ = H1
    have x1 : Xt (tK K) H H1 := newE hH nt
    have et : CellV H1 ([true], 1, 1) (.ref t) := ⟨t, rfl, by rw [atE hH, ← sb_1]; rfl⟩
    clear hH nt
    refine ⟨by exact (by decide : 1 ≤ sizeLine), fun r nr => ?_⟩
    generalize hH : upd H1 r _ = H2
    have y2 : Xt (tK K) H1 H2 := newE hH nr
    have er := atE hH
    have et := et.xg y2
    have x2 := x1.trans y2
    clear hH nr y2
    have hM : ((2 : Int) * (n : Int) - 2).toNat = 2 * n - 2 := by omega
    refine ⟨_, rfl, _, _, rfl, rfl, .inl ⟨by decide, by decide⟩, _, _, rfl, rfl, _, rfl, by omega, by omega, for_it w_range (fun i σ H' => Xt (tK K) H H' ∧ ∃ (r : Addr) (vs : List V), H' r = some (.lst vs) ∧ CellsV H' (allR n i) vs ∧ ∃ t2 t3 t4 t5 t6, σ = [some (.int n), some (.ref r), t2, t3, t4, t5, t6])
      ⟨x2, r, _, er, ⟨rfl, fun i c v hc hv => ?_⟩, _, _, _, _, _, rfl⟩ (fun _ _ _ _ _ => trivial) ?_ ?_⟩
    · cases i with
      | zero =>
        cases hc
        cases hv
        exact et
      | succ i => cases hc
    · intro i x σ Ha Hb hi hp hy
      obtain ⟨xa, r, vs, er, hcs, t2, t3, t4, t5, t6, rfl⟩ := hp
      obtain ⟨rfl, rfl⟩ := hy
      have hi : i < 12 := by omega
      have hfew : (allR n i).length ≤ 4096 := Nat.le_trans (allR_few n i) (Nat.pow_le_pow_right (by decide) (show i ≤ 12 by omega))
      refine ⟨by decide, fun p np => ?_⟩
      generalize hH : upd Hb p _ = Hc
      have xc : Xt (tK K) Hb Hc := newE hH np
      have ep := atE hH
      have npb : Nw Hb p := .of np
      clear hH np
      refine ⟨_, rfl, r, rfl, ⟨_, SqL.of (xc.lst er)⟩, for_it w_list (fun j σ H' => Xt (tK K) Hb H' ∧ (∃ ys, H' p = some (.lst ys) ∧ CellsV H' (((allR n i).take j).flatMap (allN n)) ys) ∧ ∃ t2 t4 t5 t6, σ = [some (.int n), some (.ref r), t2, some (.ref p), t4, t5, t6])
        ⟨xc, ⟨[], ep, rfl, fun i c v h => by rw [List.take_zero] at h; cases h⟩, _, _, _, _, rfl⟩ (fun _ _ _ _ h => SqL.of (h.1.lst er)) ?_ ?_⟩
      · intro j x σ Hd He hj hp hy
        obtain ⟨xd, ⟨ys, ep, hys⟩, t2, t4, t5, t6, rfl⟩ := hp
        obtain ⟨rfl, hx⟩ := hy
        obtain ⟨c, hc, hcv⟩ := (hcs.xg xd).get hx
        obtain ⟨t, rfl, et⟩ := hcv
        have hcl : (sb c.1).length = i + 1 := by rw [sb_len]; exact allR_len n i c (List.mem_of_getElem? hc)
        have hly : ys.length ≤ 2 * j := by
          rw [hys.1]
          refine Nat.le_trans (flat_two (allN_len n) _) ?_
          rw [List.length_take]
          omega
        have hj2 : j < (allR n i).length := (List.getElem?_eq_some_iff.mp hc).1
        rw [hcs.1] at hj
        refine ⟨t, _, rfl, .inl (.inl et), rfl, _, _, rfl, _, _, rfl, _, _, rfl, rfl, ?_⟩
        refine ⟨_, rfl, _, rfl, _, _, rfl, rfl, _, rfl, ?_⟩
        apply via (P := fun H' => Xt (tK K) Hb H' ∧ ∃ ys, H' p = some (.lst ys) ∧ ys.length ≤ 2 * j + 1 ∧ CellsV H' (((allR n i).take j).flatMap (allN n) ++ (if c.2.2 < n then [(c.1 ++ [true], c.2.1 + 1, c.2.2 + 1)] else [])) ys)
        · intro k
          refine ite2 (fun h => ?_) (fun h => ?_)
          · have h := of_decide_eq_true h
            have h : c.2.2 < n := by omega
            refine ⟨_, rfl, .inl ⟨rfl, _, SqL.of ep⟩, _, rfl, _, _, rfl, rfl, lim _ (by rw [hcl]; exact (show i + 1 + 1 ≤ 100000 by omega)), _, rfl, _, _, rfl, rfl, _, rfl, _, _, rfl, rfl, by exact (by decide : 3 ≤ sizeLine), fun u nu => ?_⟩
            generalize hH : upd He u _ = Hf
            have xf : Xt (tK K) He Hf := newE hH nu
            have eu : CellV Hf (c.1 ++ [true], c.2.1 + 1, c.2.2 + 1) (.ref u) := ⟨u, rfl, by rw [atE hH, ← sb_app, ← sb_1]; rfl⟩
            clear hH nu
            have ep2 := xf.lst ep
            refine ⟨p, _, _, rfl, rfl, ep2, Nat.lt_of_le_of_lt (show ys.length ≤ 10000 by omega) (by decide), k _ ⟨(xd.trans xf).mut npb ep2, _, upd_same .., by rw [List.length_append]; exact Nat.succ_le_succ hly, ?_⟩⟩
            rw [if_pos h]
            exact ((hys.xg xf).mut ep2).snoc (eu.mut ep2)
          · have h : ¬ c.2.2 < n := fun z => h (decide_eq_true (by omega))
            refine k _ ⟨xd, ys, ep, Nat.le_succ_of_le hly, ?_⟩
            rw [if_neg h, List.append_nil]
            exact hys
        · rintro H3 ⟨x3, ys, ep, hly, hys⟩
          refine ⟨_, rfl, _, _, rfl, rfl, _, rfl, ite2 (fun h => ?_) (fun h => ?_)⟩
          · have h := of_decide_eq_true h
            have h : 1 < c.2.1 := by omega
            refine ⟨_, rfl, .inl ⟨rfl, _, SqL.of ep⟩, _, rfl, _, _, rfl, rfl, lim _ (by rw [hcl]; exact (show i + 1 + 1 ≤ 100000 by omega)), _, rfl, _, _, rfl, rfl, _, rfl, by exact (by decide : 3 ≤ sizeLine), fun u nu => ?_⟩
            generalize hH : upd H3 u _ = Hf
            have xf : Xt (tK K) H3 Hf := newE hH nu
            have eu : CellV Hf (c.1 ++ [false], c.2.1 - 1, c.2.2) (.ref u) := ⟨u, rfl, by
              rw [atE hH, ← sb_app, ← sb_0]
              show some (HO.tup [V.str _, V.int ((c.2.1 : Int) - 1), V.int (c.2.2 : Int)]) = _
              rw [show (c.2.1 : Int) - 1 = ((c.2.1 - 1 : Nat) : Int) by omega]⟩
            clear hH nu
            have ep2 := xf.lst ep
            refine ⟨p, _, _, rfl, rfl, ep2, Nat.lt_of_le_of_lt (show ys.length ≤ 10000 by omega) (by decide), (x3.trans xf).mut npb ep2, ⟨_, upd_same .., ?_⟩, _, _, _, _, rfl⟩
            rw [take_flat hc]
            unfold allN
            rw [if_pos h, ← List.append_assoc]
            exact ((hys.xg xf).mut ep2).snoc (eu.mut ep2)
          · have h : ¬ 1 < c.2.1 := fun z => h (decide_eq_true (by omega))
            refine ⟨x3, ⟨ys, ep, ?_⟩, _, _, _, _, rfl⟩
            rw [take_flat hc]
            unfold allN
            rw [if_neg h, List.append_nil]
            exact hys
      · intro σ Hd hp
        obtain ⟨xd, ⟨ys, ep, hys⟩, t2, t4, t5, t6, rfl⟩ := hp
        rw [hcs.1, List.take_length] at hys
        exact ⟨_, rfl, xa.trans xd, p, ys, ep, hys, _, _, _, _, _, rfl⟩
    · intro σ Ha hp
      obtain ⟨xa, r, vs, er, hcs, t2, t3, t4, t5, t6, rfl⟩ := hp
      rw [hM] at hcs
      have hfew : (allR n (2 * n - 2)).length ≤ 4096 := Nat.le_trans (allR_few n _) (Nat.pow_le_pow_right (by decide) (show 2 * n - 2 ≤ 12 by omega))
      refine ⟨_, rfl, r, rfl, ⟨_, SqL.of er⟩, fun D hD => lc_it w_list (fun i H' => Xt (tK K) Ha H' ∧ H' D = some (.lst ((((allR n (2 * n - 2)).take i).filter (goodC n)).map fun c => V.str (sb (c.1 ++ [false]))))) ⟨.new hD, upd_same ..⟩ (fun _ _ _ h => SqL.of (h.1.lst er)) ?_ ?_⟩
      · intro i x H2 H3 hi hp hy
        obtain ⟨x2, e2⟩ := hp
        obtain ⟨rfl, hx⟩ := hy
        obtain ⟨c, hc, hcv⟩ := (hcs.xg x2).get hx
        obtain ⟨t, rfl, et⟩ := hcv
        have hcl : (sb c.1).length ≤ 13 := by rw [sb_len, allR_len n _ c (List.mem_of_getElem? hc)]; omega
        have big : ((((allR n (2 * n - 2)).take i).filter (goodC n)).map fun c => V.str (sb (c.1 ++ [false]))).length < sizeLine := by
          rw [List.length_map]
          refine Nat.lt_of_le_of_lt (Nat.le_trans (List.length_filter_le _ _) (Nat.le_trans (by rw [List.length_take]; exact Nat.min_le_right _ _) hfew)) (by decide)
        refine ⟨t, _, rfl, .inl (.inl et), rfl, _, _, rfl, _, _, rfl, _, _, rfl, rfl, rfl, _, rfl, rfl, _, rfl, ite2 (fun h => ?_) (fun h => ?_)⟩
        · have h := of_decide_eq_true h
          injection h with h
          have h : c.2.1 = 1 := by omega
          refine ⟨_, rfl, _, rfl, rfl, _, rfl, ite2 (fun h3 => ?_) (fun h3 => ?_)⟩
          · have h3 := of_decide_eq_true h3
            injection h3 with h3
            have h3 : c.2.2 = n := by omega
            refine ⟨_, rfl, _, _, rfl, rfl, lim _ (by show (sb c.1).length + 1 ≤ 100000; omega), _, e2, big, x2.mut (.of hD) e2, ?_⟩
            rw [upd_same, take_filt hc, if_pos (by unfold goodC; rw [h, h3]; simp), List.map_append, sb_0]
            show _ = some (HO.lst (_ ++ [V.str (sb (c.1 ++ [false]))]))
            rw [← sb_app]
          · have h3 : c.2.2 ≠ n := fun z => h3 (decide_eq_true (by rw [z]))
            refine ⟨x2, ?_⟩
            rw [take_filt hc, if_neg (by unfold goodC; simp [h3]), List.append_nil]
            exact e2
        · have h : c.2.1 ≠ 1 := fun z => h (decide_eq_true (by rw [z]; rfl))
          refine ⟨x2, ?_⟩
          rw [take_filt hc, if_neg (by unfold goodC; simp [h]), List.append_nil]
          exact e2
      · intro H2 hp
        obtain ⟨x2, e2⟩ := hp
        rw [hcs.1, List.take_length] at e2
        refine ⟨D, (allF n).map sb, rfl, SqL.of ?_, fun ys p perm srt np => ?_⟩
        · rw [e2]
          unfold allF
          rw [List.map_map, List.map_map]
          rfl
        · have e := all_sorted h1 h2 perm srt
          subst e
          exact q _ p ((xa.trans x2).trans (.new np)) (by rw [upd_same, List.map_map]; rfl)
end
end Tw

set_option maxHeartbeats 4000000
namespace Tw
open PySem PySem.Spec PyProof.Rows L2 LamX
section
variable {P : Program} {w : World} {K : PySem.W.Frag} {mg : Str → Option Value} {base : Heap}
def spLaw (K : PySem.W.Frag) : Sp := fun vs H Q _ => ∃ (a : Addr) (ns : List Int), vs = [.ref a] ∧ SqL K H a (ns.map .int) ∧ ns.length ≤ 63 ∧ Tabs (tK K) H ∧ ∀ H', Q (.bl true) H'
theorem spLaw_of {H : Hp} {a : Addr} {ns : List Int} (hS : SqL K H a (ns.map V.int)) (hl : ns.length ≤ 63) (_ : ∀ z ∈ ns, Builtin.Int.intBits z ≤ 1048576) (hT : Tabs (tK K) H) : spLaw K [.ref a] H (fun v _ => v = .bl true) fun _ _ _ => False := ⟨a, ns, rfl, hS, hl, hT, fun _ => rfl⟩
def spRefused (K : PySem.W.Frag) : Sp := fun vs H Q E => ∃ (n : Nat) (m : Int), vs = [.int n, .int ((few n : Nat) : Int), .int m] ∧ 1 ≤ n ∧ n ≤ 200 ∧ Tabs (tK K) H ∧ ∀ H', Xt (tK K) H H' → Q (.bl true) H'
theorem ok__law_refused_right (T : Tx K mg) (TB__law_refused_right : TabB base mg (He.cT K ("_law_refused_right", none)).1 (He.cT K ("_law_refused_right", none)).2) : OkN P w K mg base ("_law_refused_right", none) 215 ["_law_great", "_law_whole", "_law_more"] (spRefused K) := by
  refine okC T.F__law_refused_right sc__law_refused_right (fun vs H Q E h => ?_) (fun A outer s H vs Q E hr h => ?_)
  · obtain ⟨n, m, rfl, _⟩ := h
    rfl
  · obtain ⟨n, m, rfl, hn1, hn2, hT, q⟩ := h
    refine ⟨_, (pss_cons (ps_set (i := 3) sc__law_refused_right.nd rfl (.inr rfl) (pe_ix (ix_listK (K := K) rfl) (pe_lst (pa_cons pe_int (pa_cons (pe_un un_neg pe_int) (pa_cons pe_int pa_nil)))) (pe_op op_mod (pe_op op_fdivW (pv 2) (pe_op op_pow pe_int pe_int)) pe_int) (fun _ _ => rfl)))
    (pss_cons (ps_set (i := 4) sc__law_refused_right.nd rfl (.inl rfl) (pe_lst (pa_cons (pe_told T TB__law_refused_right rfl rfl rfl hr (by rfl) (by rfl) (by exact T.tk__law_refused_right) (by exact T.tu__law_refused_right) (lamS_by (by rfl)) (by rfl) (by intros; rfl) (fun A outer s H E f c' hr2 hx2 => (pe_callS (ok_how_many T) (hr2.mono (by decide)) (by rfl) T.g_how_many T.F_how_many.kp T.B_how_many hx2 (pa_cons (pv 3) pa_nil)))) pa_nil)))
    (pss_cons (ps_expr (pe_bmK (K := K) rfl F.plainAttrs_list F.slot_list_append F.type_list_append mt_append (pv 4) (pa_cons (pe_told T TB__law_refused_right rfl rfl rfl hr (by rfl) (by rfl) (by exact T.tk__law_refused_right) (by exact T.tu__law_refused_right) (lamS_by (by rfl)) (by rfl) (by intros; rfl) (fun A outer s H E f c' hr2 hx2 => (pe_callS (ok_fewest_bits T) (hr2.mono (by decide)) (by rfl) T.g_fewest_bits T.F_fewest_bits.kp T.B_fewest_bits hx2 (pa_cons (pv 3) pa_nil)))) pa_nil) (by rfl) (by rfl) (by rfl) (by rfl) (by rfl)))
    (pss_cons (ps_set (i := 4) sc__law_refused_right.nd rfl (.inl rfl) (pe_op op_cat (pv 4) (pe_lst (pa_cons (pe_told T TB__law_refused_right rfl rfl rfl hr (by rfl) (by rfl) (by exact T.tk__law_refused_right) (by exact T.tu__law_refused_right) (lamS_by (by rfl)) (by rfl) (by intros; rfl) (fun A outer s H E f c' hr2 hx2 => (pe_callS (ok_tree_at T) (hr2.mono (by decide)) (by rfl) T.g_tree_at T.F_tree_at.kp T.B_tree_at hx2 (pa_cons (pv 3) (pa_cons pe_int pa_nil))))) pa_nil))))
    (pss_cons (ps_set (i := 4) sc__law_refused_right.nd rfl (.inl rfl) (pe_op op_cat (pv 4) (pe_lst (pa_cons (pe_told T TB__law_refused_right rfl rfl rfl hr (by rfl) (by rfl) (by exact T.tk__law_refused_right) (by exact T.tu__law_refused_right) (lamS_by (by rfl)) (by rfl) (by intros; rfl) (fun A outer s H E f c' hr2 hx2 => (pe_callS (ok_tree_at T) (hr2.mono (by decide)) (by rfl) T.g_tree_at T.F_tree_at.kp T.B_tree_at hx2 (pa_cons (pv 0) (pa_cons (pv 1) pa_nil))))) pa_nil))))
    (pss_cons (ps_set (i := 4) sc__law_refused_right.nd rfl (.inl rfl) (pe_op op_cat (pv 4) (pe_lst (pa_cons (pe_told T TB__law_refused_right rfl rfl rfl hr (by rfl) (by rfl) (by exact T.tk__law_refused_right) (by exact T.tu__law_refused_right) (lamS_by (by rfl)) (by rfl) (by intros; rfl) (fun A outer s H E f c' hr2 hx2 => (pe_callS (ok_tree_at T) (hr2.mono (by decide)) (by rfl) T.g_tree_at T.F_tree_at.kp T.B_tree_at hx2 (pa_cons (pv 0) (pa_cons (pe_un un_neg pe_int) pa_nil))))) pa_nil))))
    (pss_cons (ps_if (PW.pt (pw_or (pt_cmpR (op_neDK (K := K) rfl hr.units) (pv 4) (pe_op op_rep (pe_lst (pa_cons pe_str pa_nil)) pe_int) (nomark _)) (pw_or1 (pt_cmpR (op_neDK (K := K) rfl hr.units) (pe_told T TB__law_refused_right rfl rfl rfl hr (by rfl) (by rfl) (by exact T.tk__law_refused_right) (by exact T.tu__law_refused_right) (lamS_by (by rfl)) (by rfl) (by intros; rfl) (fun A outer s H E f c' hr2 hx2 => (pe_callS (ok_number_of T) (hr2.mono (by decide)) (by rfl) T.g_number_of T.F_number_of.kp T.B_number_of hx2 (pa_cons (pe_lst (pa_cons (pe_tup pa_nil) (pa_cons (pe_lst pa_nil) pa_nil))) pa_nil)))) pe_str (nomark _)))))
    (pss_one (ps_ret pe_bl)) pss_nil)
    (pss_one (ps_ret pe_bl))))))))), ?_⟩
    refine ⟨_, rfl, by exact (by decide : 3 ≤ sizeLine), fun p np => ?_⟩
    generalize hH : upd H p _ = H1
    have x1 : Xt (tK K) H H1 := newE hH np
    have ep := atE hH
    clear hH np
    obtain ⟨odd, hodd, bad⟩ : ∃ odd : Int, atI [V.int 0, V.int (-1), V.int 201] (m / 2 ^ (20 : Int).toNat % 3) = some (.int odd) ∧ ¬ (1 ≤ odd ∧ odd ≤ 200) := by
      rcases (show m / 2 ^ (20 : Int).toNat % 3 = 0 ∨ m / 2 ^ (20 : Int).toNat % 3 = 1 ∨ m / 2 ^ (20 : Int).toNat % 3 = 2 by omega) with h | h | h <;> rw [h]
      · exact ⟨_, atI_nat (j := 0) rfl, by decide⟩
      · exact ⟨_, atI_nat (j := 1) rfl, by decide⟩
      · exact ⟨_, atI_nat (j := 2) rfl, by decide⟩
    refine ⟨_, rfl, _, _, rfl, rfl, ⟨by decide, by decide, by decide⟩, _, _, rfl, rfl, wide_div (b := 21) (by decide) (by decide) (by decide) (by decide), _, _, rfl, rfl, (show (0 : Int) < 3 by decide), p, _, _, .int odd, rfl, rfl, SqL.of ep, hodd, ?_⟩
    refine ⟨x1.tb hT, fun G xn tg => ⟨_, rfl, odd, rfl, fun k hk h1 h2 => absurd ⟨by omega, by omega⟩ bad, fun _ => ⟨"BadNumber", by decide +kernel, rfl, rfl, fun H3 x3 => ?_⟩⟩⟩
    have x3 := x1.trans ((Xt.ex (T := tK K) xn tg).trans x3)
    refine ⟨by exact (by decide : 1 ≤ sizeLine), fun a na => ?_⟩
    generalize hH : upd H3 a _ = H4
    have s := BN.new x3 na hH
    clear hH na xn tg x3 x1 ep
    refine ⟨_, rfl, .inl ⟨rfl, _, SqL.of s.e⟩, s.x.tb hT, fun G xn tg => ⟨_, rfl, odd, rfl, fun k hk h1 h2 => absurd ⟨by omega, by omega⟩ bad, fun k hk h1 h2 => absurd ⟨by omega, by omega⟩ bad, fun _ => ⟨"BadNumber", by decide +kernel, rfl, rfl, fun H5 x5 => ?_⟩⟩⟩
    have s := s.xt ((Xt.ex (T := tK K) xn tg).trans x5)
    refine ⟨a, _, _, rfl, rfl, s.e, rep_lt (by decide), ?_⟩
    generalize hH : upd H5 a _ = H6
    have s := s.app hH
    clear hH xn tg x5
    -- a tree of no such count
    refine ⟨_, rfl, s.x.tb hT, fun G xn tg => ⟨_, rfl, odd, 0, rfl, .inr ⟨.inr (.inl bad), fun H7 x7 => ⟨"BadNumber", by decide +kernel, rfl, rfl, fun H8 x8 => ?_⟩⟩⟩⟩
    have s := s.xt ((Xt.ex (T := tK K) xn tg).trans (x7.trans x8))
    refine ⟨by exact (by decide : 1 ≤ sizeLine), fun a1 n1 => ?_⟩
    generalize hH : upd H8 a1 _ = H9
    have y4 := newE (lo := True) (T := tK K) hH n1
    have e4 := atE hH
    have s := s.xt y4
    clear hH n1
    refine ⟨_, _, _, _, rfl, rfl, s.e, e4, by exact (by decide : 3 ≤ sizeLine), fun b0 n2 => ?_⟩
    generalize hH : upd H9 b0 _ = H10
    have s := s.cat n2 hH
    clear hH n2 xn tg x7 x8 y4 e4
    -- a number too great
    refine ⟨_, rfl, s.x.tb hT, fun G xn tg => ⟨_, rfl, _, rfl, n, ((few n : Nat) : Int), rfl, .inr ⟨.inr (.inr fun N hN => by rw [show n = N by omega]; exact Int.le_refl _), fun H7 x7 => ⟨"BadNumber", by decide +kernel, rfl, rfl, fun H8 x8 => ?_⟩⟩⟩⟩
    have s := s.xt ((Xt.ex (T := tK K) xn tg).trans (x7.trans x8))
    refine ⟨by exact (by decide : 1 ≤ sizeLine), fun a1 n1 => ?_⟩
    generalize hH : upd H8 a1 _ = H11
    have y4 := newE (lo := True) (T := tK K) hH n1
    have e4 := atE hH
    have s := s.xt y4
    clear hH n1
    refine ⟨_, _, _, _, rfl, rfl, s.e, e4, by exact (by decide : 4 ≤ sizeLine), fun b1 n2 => ?_⟩
    generalize hH : upd H11 b1 _ = H12
    have s := s.cat n2 hH
    clear hH n2 xn tg x7 x8 y4 e4
    -- a number below nought
    refine ⟨_, rfl, s.x.tb hT, fun G xn tg => ⟨_, rfl, _, rfl, n, -1, rfl, .inr ⟨.inl (by decide), fun H7 x7 => ⟨"BadNumber", by decide +kernel, rfl, rfl, fun H8 x8 => ?_⟩⟩⟩⟩
    have s := s.xt ((Xt.ex (T := tK K) xn tg).trans (x7.trans x8))
    refine ⟨by exact (by decide : 1 ≤ sizeLine), fun a1 n1 => ?_⟩
    generalize hH : upd H8 a1 _ = H13
    have y4 := newE (lo := True) (T := tK K) hH n1
    have e4 := atE hH
    have s := s.xt y4
    clear hH n1
    refine ⟨_, _, _, _, rfl, rfl, s.e, e4, by exact (by decide : 5 ≤ sizeLine), fun b2 n2 => ?_⟩
    generalize hH : upd H13 b2 _ = H14
    have s := s.cat n2 hH
    clear hH n2 xn tg x7 x8 y4 e4
    -- all refused
    refine ⟨_, rfl, by exact (by decide : 1 ≤ sizeLine), fun p2 n2 => ?_⟩
    generalize hH : upd H14 p2 _ = H15
    have xd := newE (lo := True) (T := tK K) hH n2
    have ed := atE hH
    clear hH n2
    refine ⟨p2, 5, _, rfl, rfl, ed, by decide, by decide, by exact (by decide : 1 * 5 ≤ sizeLine), fun p3 n3 => ?_⟩
    generalize hH : upd H15 p3 _ = H16
    have xe := newE (lo := True) (T := tK K) hH n3
    have ee : H16 p3 = some (.lst (List.replicate 5 (.str "BadNumber"))) := by rw [atE hH]; exact congrArg (fun z => some (HO.lst z)) (rep_flatV 5 _)
    clear hH n3
    have s := s.xt (xd.trans xe)
    refine neD_same (dp_rep s.e) (dp_rep ee) (sh_rep (by decide +kernel)) ⟨_, rfl, iteF ?_⟩
    refine ⟨s.x.tb hT, fun G xn tg => ⟨by exact (by decide : 0 ≤ sizeLine), fun u nu => ?_⟩⟩
    generalize hH : upd G u _ = G1
    have g1 := newE (lo := True) (T := tK K) hH nu
    have f1 := atE hH
    clear hH nu
    refine ⟨by exact (by decide : 0 ≤ sizeLine), fun v nv => ?_⟩
    generalize hH : upd G1 v _ = G2
    have g2 := newE (lo := True) (T := tK K) hH nv
    have f2 := atE hH
    have f1 := g2.tup f1
    clear hH nv
    refine ⟨by exact (by decide : 2 ≤ sizeLine), fun r nr => ?_⟩
    generalize hH : upd G2 r _ = G3
    have g3 := newE (lo := True) (T := tK K) hH nr
    have f3 := atE hH
    have f1 := g3.tup f1
    have f2 := g3.lst f2
    clear hH nr
    refine ⟨_, .li [.no, .li []], rfl, .li f3 (.cons (.no (.tup f1)) (.cons (.li f2 .nil) .nil)), by decide, .inr ⟨fun s e => (by cases e), fun H7 x7 => ⟨"BadTree", by decide +kernel, rfl, rfl, fun H8 x8 => ?_⟩⟩⟩
    refine neSC (by decide +kernel) ⟨_, rfl, iteF (q _ ?_)⟩
    exact s.x.trans ((Xt.ex (T := tK K) xn tg).trans (g1.trans (g2.trans (g3.trans (x7.trans x8)))))
theorem ok_law (T : Tx K mg) (TB__law_refused_right : TabB base mg (He.cT K ("_law_refused_right", none)).1 (He.cT K ("_law_refused_right", none)).2) (TB_law : TabB base mg (He.cT K ("law", none)).1 (He.cT K ("law", none)).2) : OkN P w K mg base ("law", none) 216 ["_law_script"] (spLaw K) := by
  refine okC T.F_law sc_law (fun vs H Q E h => ?_) (fun A outer s H0 vs Q E hr h => ?_)
  · obtain ⟨a, ns, rfl, _⟩ := h
    rfl
  · obtain ⟨a, ns, rfl, ha, hl, hT, q⟩ := h
    refine ⟨_, (pss_cons (ps_for (passes_of rfl) rfl (pi_range1 (by rfl) T.z_range (pa_cons (pe_callB (call_max2 rfl) (by rfl) T.z_max b_max (pa_cons pe_int (pa_cons (pe_callB (call_min2 rfl) (by rfl) T.z_min b_min (pa_cons pe_int (pa_cons (pe_callB (call_len_seqK (K := K) rfl) (by rfl) T.z_len b_len (pa_cons (pv 0) pa_nil)) pa_nil))) pa_nil))) pa_nil)) (pg_name (i := 1) sc_law.nd rfl (.inl rfl))
    (pss_cons (ps_set (i := 2) sc_law.nd rfl (.inl rfl) (pe_callS (ok__law_drawn T) (hr.mono (by decide)) (by rfl) T.g__law_drawn T.F__law_drawn.kp T.B__law_drawn psE (pa_cons (pe_callS (ok__law_cell T) (hr.mono (by decide)) (by rfl) T.g__law_cell T.F__law_cell.kp T.B__law_cell psE (pa_cons (pv 0) (pa_cons (pv 1) pa_nil))) (pa_cons (pv 1) pa_nil))))
    (pss_cons (ps_set (i := 3) sc_law.nd rfl (.inr rfl) (pe_op op_add pe_int (pe_op op_mod (pv 2) pe_int)))
    (pss_cons (ps_set (i := 4) sc_law.nd rfl (.inl rfl) (pe_callS (ok__law_all T) (hr.mono (by decide)) (by rfl) T.g__law_all T.F__law_all.kp T.B__law_all psE (pa_cons (pv 3) pa_nil)))
    (pss_cons (ps_if (pt_cmpR (op_neDK (K := K) rfl hr.units) (pe_told T TB_law rfl rfl rfl hr (by rfl) (by rfl) (by exact T.tk_law) (by exact T.tu_law) (lamS_by (by rfl)) (by rfl) (by intros; rfl) (fun A outer s H E f c' hr2 hx2 => (pe_callS (ok_how_many T) (hr2.mono (by decide)) (by rfl) T.g_how_many T.F_how_many.kp T.B_how_many hx2 (pa_cons (pv 3) pa_nil)))) (pe_callB (call_len_seqK (K := K) rfl) (by rfl) T.z_len b_len (pa_cons (pv 4) pa_nil)) (nomark _))
    (pss_one (ps_ret pe_bl)) pss_nil)
    (pss_cons (ps_if (pt_cmpR (op_neDK (K := K) rfl hr.units) (pe_told T TB_law rfl rfl rfl hr (by rfl) (by rfl) (by exact T.tk_law) (by exact T.tu_law) (lamS_by (by rfl)) (by rfl) (by intros; rfl) (fun A outer s H E f c' hr2 hx2 => (pe_callS (ok_fewest_bits T) (hr2.mono (by decide)) (by rfl) T.g_fewest_bits T.F_fewest_bits.kp T.B_fewest_bits hx2 (pa_cons (pv 3) pa_nil)))) (pe_callS (ok__law_needs T) (hr.mono (by decide)) (by rfl) T.g__law_needs T.F__law_needs.kp T.B__law_needs psE (pa_cons (pe_op op_sub (pe_callB (call_len_seqK (K := K) rfl) (by rfl) T.z_len b_len (pa_cons (pv 4) pa_nil)) pe_int) pa_nil)) (nomark _))
    (pss_one (ps_ret pe_bl)) pss_nil)
    (pss_cons (ps_set (i := 5) sc_law.nd rfl (.inl rfl) (pe_op op_mod (pe_op op_fdiv (pv 2) pe_int) (pe_callB (call_len_seqK (K := K) rfl) (by rfl) T.z_len b_len (pa_cons (pv 4) pa_nil))))
    (pss_cons (ps_for (passes_of rfl) rfl (pi_listK (K := K) rfl (pe_lst (pa_cons (pv 5) (pa_cons pe_int (pa_cons (pe_op op_sub (pe_callB (call_len_seqK (K := K) rfl) (by rfl) T.z_len b_len (pa_cons (pv 4) pa_nil)) pe_int) pa_nil))))) (pg_name (i := 6) sc_law.nd rfl (.inr rfl))
    (pss_cons (ps_set (i := 7) sc_law.nd rfl (.inr rfl) (pe_told T TB_law rfl rfl rfl hr (by rfl) (by rfl) (by exact T.tk_law) (by exact T.tu_law) (lamS_by (by rfl)) (by rfl) (by intros; rfl) (fun A outer s H E f c' hr2 hx2 => (pe_callS (ok_tree_at T) (hr2.mono (by decide)) (by rfl) T.g_tree_at T.F_tree_at.kp T.B_tree_at hx2 (pa_cons (pv 3) (pa_cons (pv 6) pa_nil))))))
    (pss_cons (ps_if (PW.pt (pw_or (pt_not (pt_val (pe_callB (call_isiK (K := K) rfl) (by rfl) T.z_isinstance b_isinstance (pa_cons (pv 7) (pa_cons (pe_bltn (v := .ty _) (by rfl) T.z_list b_list rfl) pa_nil))))) (pw_or1 (pt_cmpR op_ne (pe_callS (ok__law_bits_of T 210) (hr.mono (by decide)) (by rfl) T.g__law_bits_of T.F__law_bits_of.kp T.B__law_bits_of psE (pa_cons (pv 7) pa_nil)) (pe_ix (ix_listK (K := K) rfl) (pv 4) (pv 6) (fun _ _ => rfl)) (nomark _)))))
    (pss_one (ps_ret pe_bl)) pss_nil)
    (pss_one (ps_if (pt_cmpR (op_neDK (K := K) rfl hr.units) (pe_told T TB_law rfl rfl rfl hr (by rfl) (by rfl) (by exact T.tk_law) (by exact T.tu_law) (lamS_by (by rfl)) (by rfl) (by intros; rfl) (fun A outer s H E f c' hr2 hx2 => (pe_callS (ok_number_of T) (hr2.mono (by decide)) (by rfl) T.g_number_of T.F_number_of.kp T.B_number_of hx2 (pa_cons (pv 7) pa_nil)))) (pv 6) (nomark _))
    (pss_one (ps_ret pe_bl)) pss_nil)))))
    (pss_cons (ps_set (i := 8) sc_law.nd rfl (.inr rfl) (pe_op op_add pe_int (pe_op op_mod (pe_op op_fdiv (pv 2) pe_int) pe_int)))
    (pss_cons (ps_set (i := 9) sc_law.nd rfl (.inl rfl) (pe_callS (ok__law_how_many T) (hr.mono (by decide)) (by rfl) T.g__law_how_many T.F__law_how_many.kp T.B__law_how_many psE (pa_cons (pv 8) pa_nil)))
    (pss_cons (ps_if (pt_cmpR (op_neDK (K := K) rfl hr.units) (pe_told T TB_law rfl rfl rfl hr (by rfl) (by rfl) (by exact T.tk_law) (by exact T.tu_law) (lamS_by (by rfl)) (by rfl) (by intros; rfl) (fun A outer s H E f c' hr2 hx2 => (pe_callS (ok_how_many T) (hr2.mono (by decide)) (by rfl) T.g_how_many T.F_how_many.kp T.B_how_many hx2 (pa_cons (pv 8) pa_nil)))) (pv 9) (nomark _))
    (pss_one (ps_ret pe_bl)) pss_nil)
    (pss_cons (ps_if (pt_cmpR (op_neDK (K := K) rfl hr.units) (pe_told T TB_law rfl rfl rfl hr (by rfl) (by rfl) (by exact T.tk_law) (by exact T.tu_law) (lamS_by (by rfl)) (by rfl) (by intros; rfl) (fun A outer s H E f c' hr2 hx2 => (pe_callS (ok_fewest_bits T) (hr2.mono (by decide)) (by rfl) T.g_fewest_bits T.F_fewest_bits.kp T.B_fewest_bits hx2 (pa_cons (pv 8) pa_nil)))) (pe_callS (ok__law_needs T) (hr.mono (by decide)) (by rfl) T.g__law_needs T.F__law_needs.kp T.B__law_needs psE (pa_cons (pe_op op_sub (pv 9) pe_int) pa_nil)) (nomark _))
    (pss_one (ps_ret pe_bl)) pss_nil)
    (pss_cons (ps_set (i := 10) sc_law.nd rfl (.inr rfl) (pe_callS (ok__law_tree T) (hr.mono (by decide)) (by rfl) T.g__law_tree T.F__law_tree.kp T.B__law_tree psE (pa_cons (pe_op op_fdiv (pv 2) pe_int) (pa_cons (pv 8) pa_nil))))
    (pss_cons (ps_set (i := 6) sc_law.nd rfl (.inr rfl) (pe_op op_mod (pv 2) (pv 9)))
    (pss_cons (ps_set (i := 11) sc_law.nd rfl (.inr rfl) (pe_told T TB_law rfl rfl rfl hr (by rfl) (by rfl) (by exact T.tk_law) (by exact T.tu_law) (lamS_by (by rfl)) (by rfl) (by intros; rfl) (fun A outer s H E f c' hr2 hx2 => (pe_callS (ok_tree_at T) (hr2.mono (by decide)) (by rfl) T.g_tree_at T.F_tree_at.kp T.B_tree_at hx2 (pa_cons (pv 8) (pa_cons (pv 6) pa_nil))))))
    (pss_cons (ps_set (i := 12) sc_law.nd rfl (.inr rfl) (pe_told T TB_law rfl rfl rfl hr (by rfl) (by rfl) (by exact T.tk_law) (by exact T.tu_law) (lamS_by (by rfl)) (by rfl) (by intros; rfl) (fun A outer s H E f c' hr2 hx2 => (pe_callS (ok_number_of T) (hr2.mono (by decide)) (by rfl) T.g_number_of T.F_number_of.kp T.B_number_of hx2 (pa_cons (pv 10) pa_nil)))))
    (pss_cons (ps_if (pt_cmpR (op_neDK (K := K) rfl hr.units) (pe_told T TB_law rfl rfl rfl hr (by rfl) (by rfl) (by exact T.tk_law) (by exact T.tu_law) (lamS_by (by rfl)) (by rfl) (by intros; rfl) (fun A outer s H E f c' hr2 hx2 => (pe_callS (ok_tree_at T) (hr2.mono (by decide)) (by rfl) T.g_tree_at T.F_tree_at.kp T.B_tree_at hx2 (pa_cons (pv 8) (pa_cons (pv 12) pa_nil))))) (pv 10) (nomark _))
    (pss_one (ps_ret pe_bl)) pss_nil)
    (pss_cons (ps_if (pt_cmpR (op_neDK (K := K) rfl hr.units) (pe_told T TB_law rfl rfl rfl hr (by rfl) (by rfl) (by exact T.tk_law) (by exact T.tu_law) (lamS_by (by rfl)) (by rfl) (by intros; rfl) (fun A outer s H E f c' hr2 hx2 => (pe_callS (ok_number_of T) (hr2.mono (by decide)) (by rfl) T.g_number_of T.F_number_of.kp T.B_number_of hx2 (pa_cons (pv 11) pa_nil)))) (pv 6) (nomark _))
    (pss_one (ps_ret pe_bl)) pss_nil)
    (pss_cons (ps_if (pt_cmpR op_ne (pe_cmpR op_lt_str (pe_callS (ok__law_bits_of T 210) (hr.mono (by decide)) (by rfl) T.g__law_bits_of T.F__law_bits_of.kp T.B__law_bits_of psE (pa_cons (pv 10) pa_nil)) (pe_callS (ok__law_bits_of T 210) (hr.mono (by decide)) (by rfl) T.g__law_bits_of T.F__law_bits_of.kp T.B__law_bits_of psE (pa_cons (pv 11) pa_nil)) (nomark _)) (pe_cmpR op_lt (pv 12) (pv 6) (nomark _)) (nomark _))
    (pss_one (ps_ret pe_bl)) pss_nil)
    (pss_one (ps_if (pt_not (pt_val (pe_callS (ok__law_refused_right T TB__law_refused_right) (hr.mono (by decide)) (by rfl) T.g__law_refused_right T.F__law_refused_right.kp T.B__law_refused_right psE (pa_cons (pv 8) (pa_cons (pv 9) (pa_cons (pv 2) pa_nil))))))
    (pss_one (ps_ret pe_bl)) pss_nil)))))))))))))))))))))
    (pss_one (ps_ret (pe_cmpR (op_eqDK (K := K) rfl hr.units) (pe_told T TB_law rfl rfl rfl hr (by rfl) (by rfl) (by exact T.tk_law) (by exact T.tu_law) (lamS_by (by rfl)) (by rfl) (by intros; rfl) (fun A outer s H E f c' hr2 hx2 => (pe_callS (ok_number_of T) (hr2.mono (by decide)) (by rfl) T.g_number_of T.F_number_of.kp T.B_number_of hx2 (pa_cons (pe_lc (own := [("_law_j", 13)]) rfl sc_law.nd (pi_range1 (by rfl) T.z_range (pa_cons pe_int pa_nil)) (blkOk_by (by rfl)) (fun _ _ _ _ _ => (pg_name (i := 13) sc_law.nd rfl (.inl rfl))) (fun _ _ _ _ _ => pts_nil) (fun _ _ _ _ _ => (pe_lst pa_nil))) pa_nil)))) pe_str (nomark _))))), ?_⟩
    refine ⟨_, rfl, _, _, rfl, .inl ha, _, _, rfl, _, _, rfl, _, rfl, ?s1, ?s2, for_it w_range (fun i σ H' => Xt (tK K) H0 H' ∧ ∃ t, σ = some (.ref a) :: t ∧ t.length = 13) ⟨Xt.refl, _, rfl, rfl⟩ (fun _ _ _ _ _ => trivial) ?body ?fin⟩
    case s1 => split <;> split <;> simp only [List.length_map] at * <;> omega
    case s2 => split <;> split <;> simp only [List.length_map] at * <;> omega
    case fin =>
      intro σ H1 p
      obtain ⟨x1, t, rfl, ht⟩ := p
      match t, ht with
      | [o1, o2, o3, o4, o5, o6, o7, o8, o9, o10, o11, o12, o13], _ =>
      obtain ⟨w1, w2, w3⟩ := wide_T 200
      refine ⟨x1.tb hT, fun G xn tg => ?_⟩
      have yG : Xt (tK K) H1 G := .ex xn tg
      refine ⟨_, rfl, by decide, by decide, fun D hD => lcV (lo := True) (T := tK K) (fun i vs H' => ∀ v ∈ vs, ∃ a, v = .ref a ∧ a ≠ D ∧ H' a = some (.lst [])) w_range hD (by decide) (fun _ _ => trivial) (fun v hv => by cases hv) ?_ fun H2 vs x2 o2 l2 e2 => ?_⟩
      · intro i x H' vs hi hy x1 o1 e1 Q q
        refine ⟨by decide, fun p np => q (.ref p) _ (.new np) fun v hv => ?_⟩
        have hpD : p ≠ D := fun z => by rw [z, e1] at np; cases np
        rcases List.mem_append.mp hv with hv | hv
        · obtain ⟨a, rfl, ha, he⟩ := o1 v hv
          exact ⟨a, rfl, ha, by rw [upd_ne ha]; exact (Xt.new (T := tK K) np).lst he⟩
        · have : v = .ref p := by simpa using hv
          exact ⟨p, this, hpD, by rw [upd_ne hpD, upd_same]⟩
      · have o3 := obs_wide (K := K) (H := H2) (vs := vs) fun v hv => by
          obtain ⟨a, h1, _, h3⟩ := o2 v hv
          exact ⟨a, h1, h3⟩
        have l2 : vs.length = 200 := l2
        rw [l2] at o3
        refine ⟨.ref D, wideO 200, rfl, .li e2 o3, by omega, .inr ⟨fun s e => ?_, fun H3 x3 => ⟨"BadTree", by decide +kernel, rfl, rfl, fun H4 x4 => eqD_same (.str _) (.str _) (sh_str (by decide +kernel)) (q _)⟩⟩⟩
        rw [sgn_eq _ _ _ e, w3, List.length_cons, List.length_append, List.length_flatten, List.map_replicate, List.sum_replicate_nat]
        decide
    intro k x σ H1 H2 hk p hy
    obtain ⟨x1, t, rfl, ht⟩ := p
    obtain ⟨rfl, rfl⟩ := hy
    have hk2 : k ≤ 63 := by
      have : ((if (if ((ns.map V.int).length : Int) < 3 then ((ns.map V.int).length : Int) else 3) > 1 then (if ((ns.map V.int).length : Int) < 3 then ((ns.map V.int).length : Int) else 3) else 1) : Int) ≤ 63 := by
        rw [List.length_map]
        split <;> split <;> omega
      omega
    match t, ht with
    | [o1, o2, o3, o4, o5, o6, o7, o8, o9, o10, o11, o12, o13], _ =>
    refine ⟨_, rfl, _, rfl, a, ns, k, ?_, x1.seq ha, by omega, by omega, fun H2 x2 => ?_⟩
    · rw [Int.zero_add]
    have x2 := x1.trans x2
    refine ⟨_, rfl, _, (0 + (k : Int)), rfl, by omega, by omega, ?_⟩
    generalize hm : dr (cellV ns k) (0 + (k : Int)) = m
    have hm0 : 0 ≤ m := by rw [← hm]; exact (dr_rng _ _).1
    have hmA : m < pA := by rw [← hm]; exact (dr_rng _ _).2
    generalize (0 + (k : Int)) = k0
    obtain ⟨n, hn, hn1, hn2⟩ : ∃ n : Nat, (1 : Int) + m % 7 = n ∧ 1 ≤ n ∧ n < 8 := ⟨(1 + m % 7).toNat, by omega, by omega, by omega⟩
    have hfp := few_pos n (by omega) hn1
    have hfs := few_small n hn2 hn1
    refine ⟨_, rfl, _, _, rfl, rfl, (show (0 : Int) < 7 by decide), _, _, rfl, rfl, gv (v := .int n) (show V.int (1 + m % 7) = _ from congrArg V.int hn) ?_⟩
    refine ⟨_, rfl, n, rfl, hn1, hn2, fun H3 r x3 er => ?_⟩
    have x3 := x2.trans x3
    have lr : ((trees n).map fun l => V.str (sb l)).length = few n := by rw [List.length_map, trees_len]
    refine ⟨x3.tb hT, fun G xn tg => ⟨_, rfl, n, rfl, fun k hk _ _ H4 x4 => ?_, fun h => absurd ⟨by omega, by omega⟩ h⟩⟩
    obtain rfl : n = k := by omega
    have x4 := (Xt.ex (T := tK K) xn tg).trans x4
    have er := x4.lst er
    have x4 := x3.trans x4
    clear xn tg
    refine ⟨_, rfl, r, _, rfl, .inl (SqL.of er), neD_same (d := .int ((few n : Nat) : Int)) (.int _) (by rw [lr]; exact .int _) sh_int ⟨_, rfl, iteF ?_⟩⟩
    refine ⟨x4.tb hT, fun G xn tg => ⟨_, rfl, n, rfl, fun k hk _ _ _ H5 x5 => ?_, fun k hk _ _ => by rw [show k = n by omega]; exact hfp, fun h => absurd ⟨by omega, by omega⟩ h⟩⟩
    obtain rfl : n = k := by omega
    have x5 := (Xt.ex (T := tK K) xn tg).trans x5
    have er := x5.lst er
    have x5 := x4.trans x5
    clear xn tg
    refine ⟨_, rfl, r, _, rfl, .inl (SqL.of er), _, _, rfl, rfl, few n - 1, ?_, ?_⟩
    · show [V.int ((((trees n).map fun l => V.str (sb l)).length : Int) - 1)] = _
      rw [lr, show ((few n : Nat) : Int) - 1 = ((few n - 1 : Nat) : Int) by omega]
    refine neD_same (d := .int ((nd (few n - 1) : Nat) : Int)) (.int _) (.int _) sh_int ⟨_, rfl, iteF ?_⟩
    have hl0 : (0 : Int) < ((((trees n).map fun l => V.str (sb l)).length : Nat) : Int) := by rw [lr]; omega
    obtain ⟨at_, hat, hat2⟩ : ∃ k : Nat, m / 64 % ((((trees n).map fun l => V.str (sb l)).length : Nat) : Int) = k ∧ k < few n := by
      rw [lr] at hl0 ⊢
      have h1 := Int.emod_nonneg (m / 64) (show ((few n : Nat) : Int) ≠ 0 by omega)
      have h2 := Int.emod_lt_of_pos (m / 64) hl0
      exact ⟨(m / 64 % ((few n : Nat) : Int)).toNat, by omega, by omega⟩
    refine ⟨_, rfl, _, _, rfl, rfl, ⟨by decide, by decide⟩, _, rfl, r, _, rfl, .inl (SqL.of er), _, _, rfl, rfl, hl0, gv (v := .int at_) (congrArg V.int hat) ?_⟩
    refine ⟨_, rfl, _, rfl, r, _, rfl, .inl (SqL.of er), _, _, rfl, rfl, by exact (by decide : 3 ≤ sizeLine), fun p np => ?_⟩
    generalize hH : upd H5 p _ = H6
    have x6 : Xt (tK K) H5 H6 := newE hH np
    have ep : H6 p = some (.lst ([at_, 0, few n - 1].map fun k : Nat => V.int (k : Int))) := by
      rw [atE hH, lr]
      show some (HO.lst [V.int (at_ : Int), V.int 0, V.int (((few n : Nat) : Int) - 1)]) = _
      rw [show ((few n : Nat) : Int) - 1 = ((few n - 1 : Nat) : Int) by omega]
      rfl
    have hks : ∀ k ∈ [at_, 0, few n - 1], k < few n := by
      intro k hk
      simp only [List.mem_cons, List.not_mem_nil, or_false] at hk
      omega
    have er := x6.lst er
    have x6 := x5.trans x6
    clear hH np
    generalize [at_, 0, few n - 1] = ks at ep hks
    refine ⟨p, rfl, ⟨_, SqL.of ep⟩, for_it w_list (fun i σ H' => Xt (tK K) H6 H' ∧ ∃ t6 t7, σ = [some (.ref a), some (.int k0), some (.int m), some (.int n), some (.ref r), some (.int at_), t6, t7, o8, o9, o10, o11, o12, o13]) ⟨.refl, _, _, rfl⟩ (fun _ _ _ _ h => SqL.of (h.1.lst ep)) ?_ ?_⟩
    · intro i x σ Ha Hb hi hp hy
      obtain ⟨xa, t6, t7, rfl⟩ := hp
      obtain ⟨rfl, hx⟩ := hy
      rw [List.getElem?_map] at hx
      obtain ⟨j, hj, rfl⟩ := Option.map_eq_some_iff.mp hx
      have hj := hks j (List.mem_of_getElem? hj)
      have hok := ur_ok (2 * n - 2) 0 j hj
      have hul := ur_len (2 * n - 2) 0 j
      refine ⟨(x6.trans xa).tb hT, fun G xn tg => ⟨_, rfl, _, rfl, n, j, rfl, .inl ⟨n, j, rfl, rfl, hn1, by omega, hj, fun Hc v f xc oc hfT hbt => ?_⟩⟩⟩
      have xc := xa.trans ((Xt.ex (T := tK K) xn tg).trans xc)
      clear xn tg
      have hokT : okT (btT (.li f)) := by rw [hbt]; exact okT_in hok (by omega)
      have hht : Tw.ht (.li f) ≤ 200 := ht_of (o := .li f) hfT hokT
      have hlen : (btT (.li f)).length = 2 * n := by rw [hbt, List.length_cons, List.length_append, List.length_singleton, hul]; omega
      refine ⟨_, rfl, isi_list oc (fun cs e => ?_) (fun e => by cases e)⟩
      refine ⟨_, rfl, iteF ⟨_, rfl, v, .li f, rfl, oc, hfT, by omega, by omega, fun Hd xd => ?_⟩⟩
      have od := xd.ob _ _ oc
      have xd := xc.trans xd.up
      have er := xd.lst er
      refine ⟨_, rfl, _, rfl, r, _, _, .str (sb (btT (.li f))), rfl, rfl, SqL.of er, ?_, rfl, _, rfl, ite2 (fun h => ?_) (fun _ => ?_)⟩
      · rw [hbt]
        refine atI_nat ?_
        rw [List.getElem?_map, trees_at hj]
        rfl
      · rw [decide_eq_true rfl] at h
        cases h
      refine ⟨(x6.trans xd).tb hT, fun G xn tg => ⟨_, rfl, v, .li f, rfl, (Xt.ex (T := tK K) xn tg).ob _ _ od, by omega, .inl ⟨ur (2 * n - 2) 0 j, ?_, hok, by omega, fun He xe => ⟨_, rfl, neD_same (d := .int (j : Int)) ?_ (.int _) sh_int ⟨_, rfl, iteF ⟨xd.trans ((Xt.ex (T := tK K) xn tg).trans xe), _, _, rfl⟩⟩⟩⟩⟩⟩
      · rw [← hbt]
        exact sgn_of _ 1 hfT (by omega) (by omega)
      · rw [rk_ur _ _ _ hj]
        exact .int _
    · intro σ Ha hp
      obtain ⟨xa, t6, t7, rfl⟩ := hp
      have x7 := x6.trans xa
      clear xa x6 x5 x4 x3 x2 ep er
      obtain ⟨N, hN, hN1, hN2⟩ : ∃ N : Nat, (8 : Int) + m / 4096 % 33 = N ∧ 8 ≤ N ∧ N ≤ 40 := ⟨(8 + m / 4096 % 33).toNat, by omega, by omega, by omega⟩
      have hFp := few_pos N (by omega) (by omega)
      refine ⟨_, rfl, _, _, rfl, rfl, ⟨by decide, by decide⟩, _, _, rfl, rfl, (show (0 : Int) < 33 by decide), _, _, rfl, rfl, gv (v := .int N) (show V.int (8 + m / 4096 % 33) = _ from congrArg V.int hN) ?_⟩
      refine ⟨_, rfl, N, rfl, by omega, hN2, fun H8 x8 => ?_⟩
      have x8 := x7.trans x8
      refine ⟨x8.tb hT, fun G xn tg => ⟨_, rfl, N, rfl, fun k hk _ _ H9 x9 => ?_, fun h => absurd ⟨by omega, by omega⟩ h⟩⟩
      obtain rfl : N = k := by omega
      have x9 := x8.trans ((Xt.ex (T := tK K) xn tg).trans x9)
      clear xn tg
      refine ⟨_, rfl, neD_same (d := .int ((few N : Nat) : Int)) (.int _) (.int _) sh_int ⟨_, rfl, iteF ?_⟩⟩
      refine ⟨x9.tb hT, fun G xn tg => ⟨_, rfl, N, rfl, fun k hk _ _ _ H10 x10 => ?_, fun k hk _ _ => by rw [show k = N by omega]; exact hFp, fun h => absurd ⟨by omega, by omega⟩ h⟩⟩
      obtain rfl : N = k := by omega
      have x10 := x9.trans ((Xt.ex (T := tK K) xn tg).trans x10)
      clear xn tg x9 x8 x7
      refine ⟨_, rfl, _, _, rfl, rfl, few N - 1, ?_, ?_⟩
      · show [V.int (((few N : Nat) : Int) - 1)] = _
        rw [show ((few N : Nat) : Int) - 1 = ((few N - 1 : Nat) : Int) by omega]
      refine neD_same (d := .int ((nd (few N - 1) : Nat) : Int)) (.int _) (.int _) sh_int ⟨_, rfl, iteF ?_⟩
      -- a drawn tree
      refine ⟨_, rfl, _, _, rfl, rfl, ⟨by decide, by decide⟩, _, rfl, m / 8, N, rfl, by omega, by omega, by omega, fun H11 v o x11 ov hoc hoT hol hoh => ?_⟩
      have x11 := x10.trans x11
      have hF0 : (0 : Int) < ((few N : Nat) : Int) := by omega
      obtain ⟨j, hj, hj2⟩ : ∃ k : Nat, m % ((few N : Nat) : Int) = k ∧ k < few N := by
        have h1 := Int.emod_nonneg m (show ((few N : Nat) : Int) ≠ 0 by omega)
        have h2 := Int.emod_lt_of_pos m hF0
        exact ⟨(m % ((few N : Nat) : Int)).toNat, by omega, by omega⟩
      refine ⟨_, rfl, _, rfl, _, _, rfl, rfl, hF0, gv (v := .int j) (congrArg V.int hj) ?_⟩
      obtain ⟨cs, rfl⟩ := hoc
      obtain ⟨hb1, hok1⟩ := inner_of (cs := cs) hoT
      have hl1 : (btL cs).length = 2 * N - 2 := by
        rw [hb1, List.length_cons, List.length_append, List.length_singleton] at hol
        omega
      have hok := ur_ok (2 * N - 2) 0 j hj2
      have hul := ur_len (2 * N - 2) 0 j
      -- the tree of a drawn number
      refine ⟨x11.tb hT, fun G xn tg => ⟨_, rfl, _, rfl, N, j, rfl, .inl ⟨N, j, rfl, rfl, by omega, by omega, hj2, fun H12 u f x12 ou hfT hbt => ?_⟩⟩⟩
      have x12 := (Xt.ex (T := tK K) xn tg).trans x12
      have ov := x12.ob _ _ ov
      have x12 := x11.trans x12
      clear xn tg
      have hokT : okT (btT (.li f)) := by rw [hbt]; exact okT_in hok (by omega)
      have hht : Tw.ht (.li f) ≤ 200 := ht_of (o := .li f) hfT hokT
      have hlf : (btT (.li f)).length = 2 * N := by rw [hbt, List.length_cons, List.length_append, List.length_singleton, hul]; omega
      -- the drawn tree's number
      refine ⟨x12.tb hT, fun G xn tg => ⟨_, rfl, v, .li cs, rfl, (Xt.ex (T := tK K) xn tg).ob _ _ ov, by omega, .inl ⟨btL cs, ?_, hok1, by omega, fun H13 x13 => ?_⟩⟩⟩
      · rw [← hb1]
        exact sgn_of _ 1 hoT (by omega) (by omega)
      have x13 := (Xt.ex (T := tK K) xn tg).trans x13
      have ov := x13.ob _ _ ov
      have ou := x13.ob _ _ ou
      have x13 := x12.trans x13
      clear xn tg
      have hr1 : rk (btL cs) 0 < few N := by
        have := rk_lt (btL cs) 0 hok1
        rw [hl1] at this
        exact this
      -- and back
      refine ⟨x13.tb hT, fun G xn tg => ⟨_, rfl, _, rfl, N, ((rk (btL cs) 0 : Nat) : Int), rfl, .inl ⟨N, rk (btL cs) 0, rfl, rfl, by omega, by omega, hr1, fun H14 u2 f2 x14 o2 hfT2 hbt2 => ?_⟩⟩⟩
      have x14 := (Xt.ex (T := tK K) xn tg).trans x14
      have ov := x14.ob _ _ ov
      have ou := x14.ob _ _ ou
      have x14 := x13.trans x14
      clear xn tg
      have e2 : Ob.li f2 = .li cs := bt_inj hfT2 hoT (by
        rw [hbt2, hb1]
        have := ur_rk (btL cs) 0 hok1
        rw [hl1] at this
        rw [this])
      rw [e2] at o2
      refine ⟨_, rfl, neD_same (dp_ob _ u2 hoT o2) (dp_ob _ v hoT ov) (sh_ob _ 64 hoT (by omega)) ⟨_, rfl, iteF ?_⟩⟩
      -- the number's tree's number
      refine ⟨x14.tb hT, fun G xn tg => ⟨_, rfl, u, .li f, rfl, (Xt.ex (T := tK K) xn tg).ob _ _ ou, by omega, .inl ⟨ur (2 * N - 2) 0 j, ?_, hok, by omega, fun H15 x15 => ⟨_, rfl, ?_⟩⟩⟩⟩
      · rw [← hbt]
        exact sgn_of _ 1 hfT (by omega) (by omega)
      have x15 := (Xt.ex (T := tK K) xn tg).trans x15
      have ov := x15.ob _ _ ov
      have ou := x15.ob _ _ ou
      have x15 := x14.trans x15
      clear xn tg
      refine neD_same (d := .int (j : Int)) (by rw [rk_ur _ _ _ hj2]; exact .int _) (.int _) sh_int ⟨_, rfl, iteF ?_⟩
      -- by signs as by numbers
      refine ⟨_, rfl, v, .li cs, rfl, ov, hoT, by omega, by omega, fun H16 x16 => ⟨_, rfl, u, .li f, rfl, x16.ob _ _ ou, hfT, by omega, by omega, fun H17 x17 => ⟨_, _, rfl, rfl, _, rfl, _, rfl, _, _, rfl, rfl, rfl, _, rfl, ite2 (fun h => ?_) (fun _ => ?_)⟩⟩⟩
      · exfalso
        have hl2 : (btL cs).length = (ur (2 * N - 2) 0 j).length := by rw [hl1, hul]
        have ls := less_T hl2 hok1 hok
        rw [rk_ur _ _ _ hj2, ← hb1, ← hbt] at ls
        have e : V.bl (decide ((sb (btT (.li cs))).cps.toList < (sb (btT (.li f))).cps.toList)) = V.bl (decide (((rk (btL cs) 0 : Nat) : Int) < (j : Int))) := by
          refine congrArg V.bl (decide_eq_decide.mpr ?_)
          rw [Int.ofNat_lt]
          exact ls
        rw [decide_eq_true e] at h
        cases h
      have x17 := x15.trans (x16.trans x17).up
      exact ⟨_, rfl, _, rfl, _, rfl, N, m, rfl, by omega, by omega, x17.tb hT, fun H18 x18 => ⟨_, rfl, iteF ⟨x17.trans x18, _, rfl, rfl⟩⟩⟩
end
end Tw

set_option maxHeartbeats 0
namespace Tw
open PySem PySem.Spec PyProof.Rows L2 LamX
theorem law_at {w : World} {K : PySem.W.Frag} {mg : Str → Option Value} {fa : Addr} {h : Heap} (X : K.In h) (G : h.Ns mainGlobals mg) (hfa : mg ("law" : Str) = some (.ref fa)) (c : He.SaysX faL fnL [] tf exL w h K) :
    LamX.LawAtS PySem.Challenge.rw_tersewood_k80_whole_fewest w K (L2N.CX PySem.Challenge.rw_tersewood_k80_whole_fewest.prog w) 216 63 "_law_script" mg fa h := by
  have T : Tx K mg := ⟨⟨h, X, G, c.t.d⟩, c.more⟩
  have e := hfa.symm.trans T.g_law
  cases e
  refine ⟨fdOf K ("law", none), tf.map (He.cT K), spLaw K, fun p hp => ?_, fun p hp => ?_, fun p hp => ?_, fun s u => T.F_law.bindsA (ps := ["_law_script"]) (fun _ _ _ _ _ _ us hl => match us, hl with | [_], _ => rfl) s [u] rfl, fun H a ns hl hb hT hS => ?_, fun base KB GB hB => ok_law T (hB _ (List.mem_map_of_mem (f := He.cT K) (show (("_law_refused_right", none) : He.Defn) ∈ tf by decide +kernel))) (hB _ (List.mem_map_of_mem (f := He.cT K) (show (("law", none) : He.Defn) ∈ tf by decide +kernel)))⟩
  · obtain ⟨d, hd, rfl⟩ := List.mem_map.mp hp
    exact c.empty d hd
  · obtain ⟨d, hd, rfl⟩ := List.mem_map.mp hp
    exact c.out d hd
  · obtain ⟨d, hd, rfl⟩ := List.mem_map.mp hp
    exact PySem.W.codeHd_of_K X (c.hd d hd)
  · refine spLaw_of hS hl hb fun p hp => ?_
    unfold tK at hp
    simp only [List.mem_cons, List.not_mem_nil, or_false] at hp
    rcases hp with rfl | rfl
    · exact TabS.nil (hT _ (List.mem_map_of_mem (f := He.cT K) (show (("_law_refused_right", none) : He.Defn) ∈ tf by decide +kernel)))
    · exact TabS.nil (hT _ (List.mem_map_of_mem (f := He.cT K) (show (("law", none) : He.Defn) ∈ tf by decide +kernel)))
end Tw
open PySem PySem.W PySem.Calls PyProof.Rows
theorem PySem.Challenge.cw_tersewood_k80_whole_fewest_holds : PySem.Challenge.rw_tersewood_k80_whole_fewest.Holds := by
  w_on; o_law
  refine HandSHeadRun.head_any (r := OpenLaw.row PySem.Challenge.rw_tersewood_k80_whole_fewest) (q := view (OpenLaw.row PySem.Challenge.rw_tersewood_k80_whole_fewest).prog [39]) (H := Tw.hk) (ob := Tw.ob) (M := 30000) (loose := Tw.loose) (d := HandSHeadRun.topDef (OpenLaw.row PySem.Challenge.rw_tersewood_k80_whole_fewest).prog 39) (kwd := []) Tw.ob_eq
    (by kernel_rfl) (fun s => by kernel_rfl) Tw.run (by kernel_rfl) (by kernel_rfl) (by kernel_rfl) (by rfl) (by first | assumption | decide +kernel) (by decide +kernel) ⟨rfl, rfl, rfl, rfl, rfl, by decide +kernel⟩ ?hw ?hc
  case hw => w_witness2
  case hc =>
    refine LamX.walk_ofTsE (l := PySem.Challenge.rw_tersewood_k80_whole_fewest) (n := 63) (k := 216) (x := "_law_script") (CX := fun w => L2N.CX PySem.Challenge.rw_tersewood_k80_whole_fewest.prog w) rfl (by decide) (by kernel_rfl) ⟨rfl, by decide, by decide⟩ ?F (fun w H s e s2 z => ?_)
    · intro w mg fa h Y G hmg0
      obtain ⟨K, KX, c⟩ := Y
      have hmg : mg ("law" : PySem.Str) = some (.ref fa) := by
        have e : (HandSHeadRun.topDef (OpenLaw.row PySem.Challenge.rw_tersewood_k80_whole_fewest).prog 39).name = ("law" : PySem.Str) := by kernel_rfl
        rw [← e]
        exact hmg0
      exact ⟨K, KX, Tw.law_at KX G hmg c⟩
    · obtain ⟨_, _, _, _, _, _, _, _, _, _, _, _, z⟩ := z
      exact z
