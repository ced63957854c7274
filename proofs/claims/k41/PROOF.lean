import PyProof.Rows.All
import Wide.All
import OpenK.AllK
import Wide.FinOn
import KE.KStateDown
import Lean
import HandS.ForMost
import HandS.Exc
import HandS.TryOnly
import HandS.ExcOwn
import HandS.ExcCtx
import HandS.HotCalls
import HandS.ExcIs
import HandS.Lambda
import PyProof.SumAny
import HandS.Comp
import HandS.Defaults
import HandS.IsInst
import HandS.HeadHook1
import HandS.HeadHook2
import HandS.WordsExc
import HandS.Wide
import HandS.Evl
import HandS.SortInts
import HandS.HeadHook3
import HandS.HeadHook4
import HandS.StrMore
import HandS.Head0
import HandS.Head1
import HandS.Head2
import HandS.HeadEnd
import HandS.HeadWalk
import HandS.Walk
import HandS.NestedK
import PyProof.P3Eq
import PyProof.StrBlock2
import PyProof.StrLawsFrom
import HandS.Style
import PyProof.Rows.StrRev
import KE.GoesEnum
import HandS.More
import HandS.WordsDict
import HandS.SortKw
import KE.SortKeyHeap
import HandS.Conv
import PyProof.Rows.SortShellAny
import HandS.Zip
import KE.GoesMore
import KE.GoesZip
import HandS.Set
import HandS.SetTxt0
import HandS.Replace
import HandS.WideBits
import HandS.EndTab
import PySem.Challenge.RW_tersewood_k41_whole_coded
set_option Elab.async false
set_option linter.all false
set_option maxRecDepth 100000
set_option maxHeartbeats 4000000
namespace Tw
open PySem PySem.Spec PyProof.Rows L2 LamX
/-! ### a lambda called where what it lets out has no context (L2N) -/
section
variable {X : Cx} {pins : List (Addr × Obj)} {σ : L2.St} {H HZ : Hp} {s s1 : Shared}
/-- the wish of the lambda's frame -/
def lamW (X : Cx) (A : Around) (outer : List Env) (s : Shared) (H : Hp) (E : XK) (scope : Scope) (f c' : Addr) : Value → Shared → Prop :=
  fun e s' => wpAny (model X.prog X.w) (A.deeper (lamEnv X scope s.heap.objs.size f c')) (leaving (lamEnv X scope s.heap.objs.size f c') e)
    (fun _ s'' => L2N.CX X.prog X.w outer H s E e s'') (fun e' s'' => L2N.CX X.prog X.w outer H s E e' s'') s'
/-- the lambda's context, in L2N -/
def lamN (X : Cx) (A : Around) (outer : List Env) (s : Shared) (H : Hp) (E : XK) (scope : Scope) (f c' : Addr) : Cx :=
  (lamCx X A outer s H E scope f c').wish (lamW X A outer s H E scope f c')
theorem lamN_takes {A : Around} {outer : List Env} {E : XK} {scope : Scope} {f c' : Addr} :
    L2N.Takes (lamN X A outer s H E scope f c') (fun cls d _ H => E cls d H) :=
  L2N.takes_of (E₁ := fun e' s'' => L2N.CX X.prog X.w outer H s E e' s'') rfl rfl rfl rfl
/-- the call of a name that holds the lambda, in the def that got it -/
theorem act {CXg : CXT} {Eg : XK} {Ng : List Str} {qg : Str} {sg : Scope} {g f c' : Addr} {cdg pm ctv : Value} {params : Arguments} {body : Expr} {scope : Scope} {k i : Nat} {a : Str}
    {pn : List (Addr × Obj)} {xe : Value → Shared → Prop} {W : WX} {E : XK} {tb : TE} {p1 p2 : Pos}
    (I : Inv X pins σ H s) (L : LamS X.env.scope scope)
    (hf : s.heap.get? f = some (PySem.W.kla_obj "<lambda>" (X.env.qual ++ "<lambda>") params body scope (cloFrom X.env.cells scope.names []) pm c' ctv)) (hfn : H f = none) (hfr : f ∉ frs X.stack)
    (hbind : bindArgs (PySem.W.kla_fn "<lambda>" (X.env.qual ++ "<lambda>") params body scope (cloFrom X.env.cells scope.names []) pm (.ref c') ctv) ⟨[], []⟩ = pure [])
    (tk : L2N.Takes ((cxOf CXg X.prog X.w X.K X.mg X.base Ng qg sg g cdg X.A X.stack s H Eg).tr pn xe) W)
    (hW : ∀ cls d σ' H', E cls d H' → W cls d σ' H') (hr : Room (k + 1) (X.A.deeper (envOfC qg sg s.heap.objs.size g cdg)))
    (hbody : ∀ (A : Around) (outer : List Env) (s : Shared) (H : Hp), Room k (A.deeper (lamEnv X scope s.heap.objs.size f c')) → PE (lamN X A outer s H E scope f c') body tb)
    (hN : Ng[i]? = some a) (hv : Vis sg a) (hd : (a == ("__debug__" : Str)) = false) (hcd : (a == ("__classdict__" : Str)) = false) :
    PE ((cxOf CXg X.prog X.w X.K X.mg X.base Ng qg sg g cdg X.A X.stack s H Eg).tr pn xe) (.Call (.Name a p1) [] [] p2)
      (fun σZ HZ Q => σZ[i]? = some (some (.ref f)) ∧ HZ c' = some (CodeO c' (X.env.qual ++ "<lambda>")) ∧ tb σ HZ Q) := by
  constructor
  intro pinsZ sZ σZ HZ Q IZ ⟨hs, hc, ht⟩
  refine wpAny_Call_Name_kw (thn ((pe_var (pos := p1) (i := i) hN hv hd hcd).run pinsZ sZ σZ HZ (fun v H1 => v = .ref f ∧ H1 = HZ) IZ ⟨.ref f, hs, rfl, rfl⟩) fun u s1 ⟨v, H1, I1, r1, ev, eH⟩ => ?_)
  subst ev eH
  obtain rfl : u = Value.ref f := r1
  have un : Un (frs X.stack) [] H H1 s.heap s1.heap := I1.base
  have of1 := un.keep f _ hf hfn hfr (List.not_mem_nil)
  refine PySem.W.callWith_F0 ⟨_, _, _, _, of1⟩ ?_
  obtain ⟨⟨oc, vs, t, hoc, hdc, hvc⟩, _, _⟩ := I1.hok c' _ hc
  have rc : codeAny (model X.prog X.w) (X.A.deeper (envOfC qg sg s.heap.objs.size g cdg)) (.call (.ref f) ⟨[], []⟩) (CR (L2N.CX X.prog X.w) (envOfC qg sg s.heap.objs.size g cdg :: X.stack) X.prog X.w H1 s1 Q E) s1 := by
    refine PySem.W.kla_callFunE hr.depth of1 rfl L.co L.gen rfl ⟨c', oc, vs, t, rfl, hoc, hdc, hvc⟩ ?_
    rw [hbind]
    refine wpAny_pure (wpAny_newFunctionEnv (fun y hy => (L.own y hy).2) (fun y hy => absurd hy List.not_mem_nil) (fun h₁ hns hsb => ⟨I1.nolimit.fresh _ hsb, ?_⟩) L.kind)
    have kp : ∀ b o, s1.heap.get? b = some o → h₁.get? b = some o := fun b o e => hsb.extBut b o (Nat.ne_of_lt (Heap.lt_size e)) (Heap.get?_push_of_some _ e)
    have J := (lam_start2 (E := E) (A := X.A.deeper (envOfC qg sg s.heap.objs.size g cdg)) (outer := envOfC qg sg s.heap.objs.size g cdg :: X.stack) (f := f) (c' := c') (tk := s1.toks + ([] : List (Str × Value)).length) I L I1.env0 hr.hd un hns kp).wish
      (lamW X (X.A.deeper (envOfC qg sg s.heap.objs.size g cdg)) (envOfC qg sg s.heap.objs.size g cdg :: X.stack) s1 H1 E scope f c')
    refine PySem.W.kla_codeExpr (wpAny_mono ((hbody _ _ s1 H1 (hr.deeper _)).run [] _ _ H1 Q J ht) (fun v s' hq => ?_) fun e s' hq => hq)
    obtain ⟨w', H', J', rv, q⟩ := hq
    exact ⟨w', H', J'.os, J'.bare, J'.base, J'.hok, rv, q⟩
  refine wpAny_call (codeAny_mono rc fun r s' hq => ?_)
  cases r with
  | error e => exact L2N.passes_call tk hW pinsZ σZ H1 s1 e s' I1 hq
  | ok fl =>
    cases fl with
    | ret u => exact I1.after hq
    | next => exact hq.elim
    | brk => exact hq.elim
    | cont => exact hq.elim
end
end Tw

set_option maxHeartbeats 4000000
namespace Tw
open PySem PySem.Spec PyProof.Rows L2 HotX L2H
/-! ### lists walked while an exception is handled -/
section
variable {prog : Program} {w : World} {A : Around} {E : Value → Shared → Prop} {s : Shared}
/-- the list iterator's end, where an exception without a context is handled -/
theorem list_end_hot {it l x1 : Addr} {i : Nat} {items : Array Value} {Q : Option Value → Shared → Prop} (hot : HotAt A x1 s.heap) (hit : s.heap.IsListIter it l i) (hl : s.heap.IsList l items) (hx : items[i]? = none) (hne : x1 ≠ it)
    (hQ : ∀ h', Heap.ExtBut it s.heap h' → Q none { s with heap := h' }) : wpAny (model prog w) A (pyNext (.ref it)) Q E s := by
  obtain ⟨o, ho, hc, hd⟩ := id hit
  obtain ⟨ol, hol, _, nl, hdl⟩ := hl
  obtain ⟨hh, o1, vs1, h1, d1, c1⟩ := hot
  unfold pyNext
  refine wpAny_bind (wpAny_attempt (wpAny_callSpecial?_slot (name := Str.ofString "__next__") hit.typeIs slot_listiter_next (wpAny_call_entry slot_listiter_next hit.typeIs entry_listiter_next ?_ (args_listiter_next _))))
  show wpAny _ _ (field (.ref it) 0 >>= _) _ _ s
  refine wpAny_bind (wpAny_field ho hd (x := .ref l) rfl ?_)
  show wpAny _ _ (if (Value.ref l == Value.none) = true then _ else _) _ _ s
  rw [if_neg (show ¬ ((Value.ref l == Value.none) = true) from Bool.false_ne_true)]
  show wpAny _ _ (field (.ref it) 1 >>= _) _ _ s
  refine wpAny_bind (wpAny_field ho hd (x := .int i 0) rfl ?_)
  show wpAny _ _ (seqItems? (.ref l) >>= _) _ _ s
  refine wpAny_bind (wpAny_seqItems hol hdl ?_)
  simp only [Int.toNat_natCast, hx]
  refine wpAny_bind (wpAny_rule (wpAny_bind (wpAny_setField ho hd (by simp) ?_)))
  show wpAny _ _ (newExc (.type "StopIteration") [] >>= _) _ _ _
  refine wpAny_bind ?_
  simp only [newExc, newTuple]
  refine wpAny_bind (wpAny_newObj_type ?_ (by size_fits))
  refine wpAny_bind (m := firstArgMember _ _) (wpAny_of_eq (a := Value.none) (by first | rfl | (simp only [firstArgMember]; rfl)) ?_)
  refine wpAny_newObj_type ?_ (by size_fits)
  have k1 : ∀ (b : Addr) (u : Obj), b ≠ it → s.heap.get? b = some u → ∀ (f : Obj → Obj) (p q : Obj), (((s.heap.update it f).push p).push q).get? b = some u := fun b u hb e f p q =>
    Heap.get?_push_of_some _ (Heap.get?_push_of_some _ ((Heap.get?_update_other _ _ (Ne.symm hb)).trans e))
  have kx := k1 x1 o1 hne h1
  refine raiseNew_hot ⟨hh, o1, vs1, kx _ _ _, d1, c1⟩ (Nat.ne_of_lt (Heap.lt_size (Heap.get?_push_of_some _ ((Heap.get?_update_other _ _ (Ne.symm hne)).trans h1)))) (Heap.get?_push_size _ rfl) rfl (by first | (simp; done) | (simp; omega) | (simp only [Array.size_append]; simp; omega)) ?_
  refine wpAny_bind (wpAny_isInstance (T := "StopIteration") (b := true) ⟨_, Heap.get?_update_self _ (Heap.get?_push_size _ rfl) rfl, rfl⟩ isSubtype_stop ?_)
  refine wpAny_pure (hQ _ fun b u hb e => ?_)
  rw [Heap.get?_update_other _ _ (Nat.ne_of_gt (Heap.lt_size (Heap.get?_push_of_some _ ((Heap.get?_update_other _ _ (Ne.symm hb)).trans e))))]
  exact k1 b u hb e _ _ _
end

/-- a list walked there, for the library's sum -/
theorem walks_hot {prog : Program} {w : World} {A : Around} {x1 : Addr} {o1 : Obj} {vs1 : Array Value} (hh : A.handled = some (.ref x1)) (d1 : o1.data = .fields vs1) (c1 : vs1[2]? = some .none) (I ax : Addr) (hne : ax ≠ I) (hx : x1 ≠ I) (items : Array Value) :
    Walks prog w A I [I, ax, x1] [I] items.size (fun i v => items[i]? = some v) (fun i h => h.IsListIter I ax i ∧ h.IsList ax items ∧ h.get? x1 = some o1) where
  sub := fun b hb => by
    have e : b = I := List.mem_singleton.mp hb
    rw [e]
    exact List.mem_cons_self
  frame := fun _ _ _ st hk => ⟨st.1.at fun o e => hk I (by simp) o e, st.2.1.at fun o e => hk ax (by simp) o e, hk x1 (by simp) _ st.2.2⟩
  item := fun i s Q E hi st hQ => by
    refine wpAny_pyNext_list_item st.1 st.2.1 (x := items[i]) (by simp [hi]) fun h' hit' hs' => ?_
    exact hQ _ h' s.toks (by simp [hi]) ⟨hit', st.2.1.extBut hs'.extBut hne, hs'.extBut x1 _ hx st.2.2⟩ fun b o hb e => hs'.extBut b o (fun h => hb (by simp [h])) e
  done := fun s Q E st hQ => by
    refine list_end_hot ⟨hh, o1, vs1, st.2.2, d1, c1⟩ st.1 st.2.1 (by simp) hx fun h' eb => ?_
    exact hQ h' s.toks fun b o hb e => eb b o (fun h => hb (by simp [h])) e
  self := fun i s Q E st h => wpAny_pyIter_listiter st.1 h
section
variable {X : Cx} {pins : List (Addr × Obj)} {σ : L2.St} {H : Hp} {s : Shared}
/-- sum(xs) there -/
theorem cr_sumH (hc : HotC X) : CallR X (.builtin "sum") (rSum X.K) := by
  intro pins s σ H vs us Q I r h
  obtain ⟨a, ns, rfl, hs, q⟩ := h
  obtain ⟨its, rv, hl, _⟩ := I.list hs
  rw [Vals.ref1 r]
  obtain ⟨p, ⟨hh, v1, e1, c1⟩, hp⟩ := hc
  have P1 := (I.pin p (List.mem_append_left _ hp)).1
  have hi := rv.ints
  obtain ⟨xs, e⟩ := hi.allInts.items
  have hn : numsOf (intItems xs).toList = ns := by rw [← e]; exact hi.numsOf
  rw [nums_intItems] at hn
  have hl2 := hl.isList
  rw [e] at hl2
  refine call_sum_walkG (iter_intList hl2 fun s₂ es st hfp hlI => ?_)
  have k2 : ∀ b o, s.heap.get? b = some o → s₂.heap.get? b = some o := fun b o e => by
    rw [es]
    exact Heap.get?_push_of_some _ e
  have hx : p.1 ≠ s.heap.objs.size := Nat.ne_of_lt (Heap.lt_size P1)
  subst es
  refine ⟨_, _, _, _, _, _, numAt xs, rfl, walks_hot (A := X.A.in1) hh e1 c1 _ a hlI hx (intItems xs), ⟨st.1, st.2, k2 _ _ P1⟩, fun b hb => ?_, (fun _ _ => intItems_at), fun h' tk t' hk => ?_⟩
  · have hb2 : b = s.heap.objs.size ∨ b = a ∨ b = p.1 := by simpa using hb
    rcases hb2 with e | e | e
    · exact hfp b (by simp [e])
    · exact hfp b (by simp [e])
    · rw [e]
      exact Heap.lt_size (k2 _ _ P1)
  · refine ⟨.int _, H, I.kept (h' := h') (t' := tk) (old_kept hk), ⟨t', rfl⟩, ?_⟩
    have e4 : preSum (numAt xs) (intItems xs).size = ns.sum := by
      rw [show (intItems xs).size = xs.size by simp [intItems], preSum_eq, List.take_of_length_le (by simp), hn]
    rw [e4]
    exact q
end
end Tw

set_option maxHeartbeats 4000000
namespace Tw
open PySem PySem.Spec PyProof.Rows L2 HotX L2H
section
variable {X : Cx} {pins : List (Addr × Obj)} {σ : L2.St} {H : Hp} {s : Shared} {a it : Addr} {xs : List V} {i : Nat}
theorem list_item_any {A : Around} {E : Value → Shared → Prop} {x : V} (I : Inv X pins σ H s) (hq : SqL X.K H a xs) (hx : xs[i]? = some x) (st : s.heap.IsListIter it a i) (f : FpOk X pins H it) {Q : Option Value → Shared → Prop}
    (q : ∀ u s1, RelV x u → Inv X pins σ H s1 → s1.heap.IsListIter it a (i + 1) → Q (some u) s1) : wpAny (model X.prog X.w) A (pyNext (.ref it)) Q E s := by
  obtain ⟨its, rv, p, hz⟩ := I.list hq
  obtain ⟨u, hu, ru⟩ := rv.get hx
  obtain ⟨f0, f1, f2, f3, f4, f5⟩ := f
  refine wpAny_pyNext_list_item st p.isList (x := u) (by simpa using hu) fun h' st' sb => ?_
  exact q u _ ru (I.turned (t' := s.toks) (fun b o hb e => (sb.2 b hb).trans e) f0 f1 f3 f4 f5) st'
theorem list_done_hot {A : Around} {E : Value → Shared → Prop} {x1 : Addr} (I : Inv X pins σ H s) (hot : HotAt A x1 s.heap) (hq : SqL X.K H a xs) (hx : xs.length ≤ i) (st : s.heap.IsListIter it a i) (f : FpOk X pins H it) (hne : x1 ≠ it) {Q : Option Value → Shared → Prop}
    (q : ∀ s1, Inv X pins σ H s1 → Q none s1) : wpAny (model X.prog X.w) A (pyNext (.ref it)) Q E s := by
  obtain ⟨its, rv, p, hz⟩ := I.list hq
  obtain ⟨f0, f1, f2, f3, f4, f5⟩ := f
  have hl := rv.length
  exact list_end_hot hot st p.isList (by simp; omega) hne fun h' eb => q _ (I.turned (t' := s.toks) (fun b o hb e => eb b o hb e) f0 f1 f3 f4 f5)
end
section
variable {X : Cx}
/-- [elt for target in l] where an exception is handled; the list l stands still -/
def tLcH (K : PySem.W.Frag) (tl : TE) (g : TG) (te : TE) (vs : List Nat) : TE := fun σ H Q => tl σ H fun x H1 => ∃ a xs, x = .ref a ∧ SqL K H1 a xs ∧ ∀ D, H1 D = none → ∃ W : Nat → Hp → Prop, W 0 (upd H1 D (.lst [])) ∧ (∀ i H, W i H → SqL K H a xs) ∧
  (∀ i x H, xs[i]? = some x → W i H → g x (wipe σ vs) H fun σ2 H2 => wipe σ2 vs = wipe σ vs ∧ te σ2 H2 fun y H4 => ∃ acc, H4 D = some (.lst acc) ∧ acc.length < sizeLine ∧ W (i + 1) (upd H4 D (.lst (acc ++ [y])))) ∧
  (∀ H, W xs.length H → Q (.ref D) H)
theorem pe_lcH {elt tg iter : Expr} {scope : Scope} {own : List (Str × Nat)} {pos : Pos} {tl : TE} {g : TG} {te : TE} (hc : HotC X) (hN : X.N.Nodup) (hl : PE X iter tl) (ok : BlkOk X.N X.env.scope scope own)
    (hg : ∀ (s : Shared) (H : Hp) (C : Addr) (cl : List (Str × Addr)) (fp : List Addr), PG (X.blk s H scope (compEnvC scope cl C X.env) fp) tg g)
    (he : ∀ (s : Shared) (H : Hp) (C : Addr) (cl : List (Str × Addr)) (fp : List Addr), PE (X.blk s H scope (compEnvC scope cl C X.env) fp) elt te) (hs : ∀ x, foldedSetIterable iter X.env x = pure x := by intro _; rfl) :
    PE X (.ListComp elt [⟨tg, iter, [], 0⟩] scope pos) (tLcH X.K tl g te (own.map (·.2))) := by
  refine ⟨fun pins s σ H Q I h => ?_⟩
  rw [eval_ListComp]
  have hfree : ∀ y ∈ scope.names, y.2 = .free → ∃ c, X.env.cells.lookup y.1 = some c := fun y hy e => by
    rcases ok.free y hy e with k | k
    · exact I.ok.has _ (.inl k)
    · exact I.ok.has _ (.inr k)
  obtain ⟨p, ⟨hh, v1, e1, c1⟩, hp⟩ := hc
  refine wpAny_comprehension_free (use := none) rfl hs (closure_ok hfree) ok.kind (fun y hy e => by rw [ok.uniq y hy, e]) ?_
  refine thn (hl.run pins s σ H _ I h) fun v s1 ⟨x, H1, I1, r1, a, xs, ex, hq, step⟩ => ?_
  subst ex
  cases r1
  obtain ⟨its, rv, pl, hz⟩ := I1.list hq
  refine wpAny_pyIter_list pl.isList ?_
  -- the iterator, the new list, the block's frame
  generalize hit : s1.heap.objs.size = it
  have I2 : Inv X pins σ H1 { s1 with heap := s1.heap.push { cls := .type "list_iterator", data := .fields #[.ref a, .int 0 0] } } := I1.kept (t' := s1.toks) fun b o e => Heap.get?_push_of_some _ e
  have f2 : FpOk X pins H1 it := by
    have z := I1.fpOk (H' := H1) (b := it) (by rw [← hit]; exact Nat.le_refl _) (I1.hok.fresh (by rw [← hit]; exact Nat.le_refl _))
    exact z
  have st2 : ({ s1 with heap := s1.heap.push { cls := .type "list_iterator", data := .fields #[.ref a, .int 0 0] } } : Shared).heap.IsListIter it a 0 := ⟨_, by rw [← hit]; exact Heap.get?_push_size _ rfl, rfl, rfl⟩
  generalize ({ s1 with heap := s1.heap.push { cls := .type "list_iterator", data := .fields #[.ref a, .int 0 0] } } : Shared) = s2 at I2 st2 ⊢
  refine wpAny_newObj_type (newEnv_comp ?_) (by show 0 ≤ sizeLine; decide)
  generalize hD : s2.heap.objs.size = D
  have hDn : H1 D = none := I2.hok.fresh (Nat.le_of_eq hD)
  obtain ⟨W, w0, wl, wt, we⟩ := step D hDn
  generalize hs3 : ({ s2 with heap := s2.heap.push { cls := .type "list", data := .seq ([] : List Value).toArray } } : Shared) = s3
  have h3 : s3.heap = s2.heap.push { cls := .type "list", data := .seq ([] : List Value).toArray } := by rw [← hs3]
  have I3 : Inv X pins σ (upd H1 D (.lst [])) s3 := by
    rw [← hs3]
    refine I2.laid (t' := s2.toks) (fun b o e => Heap.get?_push_of_some _ e) (Nat.le_of_eq hD) ⟨Nat.zero_le _, [], 0, .nil, ?_⟩
    rw [← hD]
    exact Heap.get?_push_size _ rfl
  have ltI : it < s2.heap.objs.size := by
    obtain ⟨o, e, _⟩ := st2
    exact Heap.lt_size e
  have f3 : ∀ b ∈ [it], FpOk X pins (upd H1 D (.lst [])) b ∧ b < s3.heap.objs.size := fun b hb => by
    have eb : b = it := List.mem_singleton.mp hb
    subst eb
    refine ⟨⟨?_, f2.2⟩, by rw [h3, Heap.size_push]; exact Nat.lt_succ_of_lt ltI⟩
    rw [upd_ne (by rw [← hD]; exact Nat.ne_of_lt ltI)]
    exact f2.1
  have st3 : s3.heap.IsListIter it a 0 := st2.at fun o e => by rw [h3]; exact Heap.get?_push_of_some _ e
  have P3 := I3.pin p (List.mem_append_left _ hp)
  have hx1 : p.1 ≠ it := (f3 it List.mem_cons_self).1.2.2.2.2.2 p (List.mem_append_left _ hp)
  have I4 := block_start I3 ok hN f3
  have pg := hg s3 (upd H1 D (.lst [])) s3.heap.objs.size (cellsFrom (s3.heap.objs.size + 1) scope.names (cloFrom X.env.cells scope.names [])) [it]
  have pe := he s3 (upd H1 D (.lst [])) s3.heap.objs.size (cellsFrom (s3.heap.objs.size + 1) scope.names (cloFrom X.env.cells scope.names [])) [it]
  show codeAny _ _ (.compStart (.ListComp elt [⟨tg, iter, [], 0⟩] scope pos) 0 (.ref it) (.ref D) (compEnvC scope (cellsFrom (s3.heap.objs.size + 1) scope.names (cloFrom X.env.cells scope.names [])) s3.heap.objs.size X.env)) (compPost (model X.prog X.w) X.A X.xe none (EP X pins σ Q) (.ref D) s3.heap.objs.size) { s3 with heap := pushCells (s3.heap.push { cls := .type "dict", data := .dict #[] }) scope.names }
  generalize hce : compEnvC scope (cellsFrom (s3.heap.objs.size + 1) scope.names (cloFrom X.env.cells scope.names [])) s3.heap.objs.size X.env = ce at I4 pg pe ⊢
  have cL : ce.locals = s3.heap.objs.size := by subst hce; rfl
  generalize hH3 : upd H1 D (.lst []) = H3 at I3 I4 pg pe w0 f3 P3
  generalize hs4 : ({ s3 with heap := pushCells (s3.heap.push { cls := .type "dict", data := .dict #[] }) scope.names } : Shared) = s4 at I4 ⊢
  have k4 : ∀ b o, s3.heap.get? b = some o → s4.heap.get? b = some o := fun b o e => by
    rw [← hs4]
    exact pushCells_keeps _ _ _ _ (Heap.get?_push_of_some _ e)
  have st4 : s4.heap.IsListIter it a 0 := st3.at fun o e => k4 _ _ e
  have J4 : Inv (X.blk s3 H3 scope ce [it]) [p] (wipe σ (own.map (·.2))) H3 s4 := I4.pins_of fun q hq => by
    have eq : q = p := List.mem_singleton.mp hq
    subst eq
    refine ⟨k4 _ _ P3.1, P3.2.1, ?_, fun z => ?_, P3.2.2.2.2⟩
    · show q.1 ≠ ce.locals
      rw [cL]
      exact Nat.ne_of_lt (Heap.lt_size P3.1)
    · exact (List.mem_cons.mp (I3.stkSub q.1 z)).elim P3.2.2.1 P3.2.2.2.1
  have stat : ∀ {σ' : L2.St} {H' : Hp} {s' : Shared}, Inv (X.blk s3 H3 scope ce [it]) [p] σ' H' s' → H' it = none → FpOk (X.blk s3 H3 scope ce [it]) [p] H' it := fun {σ' H' s'} I' hn =>
    ⟨hn, (I'.ok.exf it List.mem_cons_self).1, I'.ok.exfs it List.mem_cons_self, .inl List.mem_cons_self, fun x c e => (I'.ok.exf it List.mem_cons_self).2 x c e, fun q hq => by
      have eq : q = p := by simpa using (show q ∈ ([] : List (Addr × Obj)) ++ [p] from hq)
      rw [eq]
      exact hx1⟩
  have loop : codeAny (model X.prog X.w) X.A (.compLoop (.ListComp elt [⟨tg, iter, [], 0⟩] scope pos) 0 (.ref it) (.ref D) ce) (compPost (model X.prog X.w) X.A X.xe none (EP X pins σ Q) (.ref D) s3.heap.objs.size) s4 := by
    refine compLoop_any (fun n s' => ∃ i H', i + n = xs.length ∧ Inv (X.blk s3 H3 scope ce [it]) [p] (wipe σ (own.map (·.2))) H' s' ∧ s'.heap.IsListIter it a i ∧ H' it = none ∧ W i H') ?_ xs.length ⟨0, H3, Nat.zero_add _, J4, st4, (f3 it List.mem_cons_self).1.1, w0⟩
    rintro n s5 ⟨i, H5, ein, I5, st5, n5, w5⟩
    have P5 := I5.pin p (by simp)
    have hot5 : HotAt X.A p.1 s5.heap := ⟨hh, p.2, v1, P5.1, e1, c1⟩
    have q5 : SqL X.K H5 a xs := wl i H5 w5
    cases n with
    | zero =>
      refine list_done_hot I5 hot5 q5 (by omega) st5 (stat I5 n5) hx1 fun s6 I6 => ?_
      have ei : i = xs.length := by omega
      rw [ei] at w5
      have I7 : Inv X pins σ H5 s6 := I3.call' (ch := [it]) I6.os I6.base I6.hok I6.bare fun b hb => ⟨(f3 b hb).1.2.2.2.1, (f3 b hb).1.2.1, (f3 b hb).1.2.2.2.2.1, (f3 b hb).1.2.2.2.2.2⟩
      have nC : H5 s3.heap.objs.size = none := by
        have z : H5 ce.locals = none := I6.free
        rw [cL] at z
        exact z
      obtain ⟨m, hn, _⟩ := I6.loc
      have hn : s6.heap.Ns ce.locals m := hn
      rw [cL] at hn
      refine ⟨m, hn, fun h'' sb => ?_⟩
      obtain ⟨f0, f1, f2, f3, f4, f5⟩ := I3.fpOk (Nat.le_refl _) nC
      exact ⟨.ref D, H5, I7.turned (t' := s6.toks) (fun b o hb e => (sb.2 b hb).trans e) f0 f1 f3 f4 f5, rfl, we H5 w5⟩
    | succ n =>
      have hi : i < xs.length := by omega
      have hx : xs[i]? = some xs[i] := List.getElem?_eq_getElem hi
      refine list_item_any I5 q5 hx st5 (stat I5 n5) fun u s6 ru I6 st6 => ?_
      obtain ⟨oi, ei, ci, di⟩ := id st6
      refine go_of ei ci di (by decide) ?_
      have I6' : Inv (X.blk s3 H3 scope ce [it]) ([p] ++ [(it, oi)]) (wipe σ (own.map (·.2))) H5 s6 := I6.pins_of fun q hq => by
        rcases List.mem_append.mp hq with z | z
        · exact I6.pin q (List.mem_append_right _ z)
        · have eq : q = (it, oi) := List.mem_singleton.mp z
          subst eq
          obtain ⟨g0, g1, g2, _⟩ := stat I6 n5
          exact ⟨ei, g0, g1, g2, fun v z => by rw [di] at z; cases z⟩
      refine thnF (pg.run _ s6 _ H5 xs[i] u _ I6' ru (wt i _ H5 hx w5)) fun _ s8 ⟨σ8, H8, I8, hw8, q8⟩ => ?_
      refine wpAny_tests_nil ?_
      rw [if_pos rfl]
      refine thnF (pe.run _ s8 σ8 H8 _ I8 q8) fun z s10 ⟨yv, H10, I10, r10, acc, hD10, hz10, nx⟩ => ?_
      refine app_ok (X := X.blk s3 H3 scope ce [it]) I10 hD10 hz10 r10 fun s11 I11 => ?_
      have PI := I11.pin (it, oi) (by simp)
      have hl : (wipe σ (own.map (·.2))).length = σ8.length := by rw [← hw8, wipe_length]
      refine ⟨n, Nat.lt_succ_self _, i + 1, _, by omega, (I11.pins_of (pins' := [p]) fun q hq => I11.pin q (by simp at hq ⊢; exact .inl hq)).weak hl (fun j v e => ?_), ⟨oi, PI.1, ci, di⟩, PI.2.1, nx⟩
      rw [← hw8] at e
      exact (wipe_some e).1
  exact codeAny_compStart_list loop (wpAny_pyIter_listiter st4 loop)
end
end Tw

set_option maxHeartbeats 4000000
namespace Tw
open PySem PySem.Spec PyProof.Rows L2 LamX
/-! ### what stays from one heap to a later one: all but tables of code objects, which stay tables; an instance's field "seen" may change -/
def sn (n : Int) : List (Str × V) := [("seen", .int n)]
def Sn (lo : Prop) (o o' : HO) : Prop := o' = o ∨ lo ∧ ∃ (C dx : Addr) (fs : List (Str × V)) (n n' : Int), o = .ins C dx (fs ++ sn n) ∧ o' = .ins C dx (fs ++ sn n')
theorem Sn.refl {lo : Prop} {o : HO} : Sn lo o o := .inl rfl
theorem Sn.trans {lo : Prop} {o p q : HO} (a : Sn lo o p) (b : Sn lo p q) : Sn lo o q := by
  rcases a with rfl | ⟨hl, C, dx, fs, n, n1, e1, e2⟩
  · exact b
  · rcases b with rfl | ⟨_, C2, dx2, fs2, n2, n3, e3, e4⟩
    · exact .inr ⟨hl, C, dx, fs, n, n1, e1, e2⟩
    · rw [e2] at e3
      injection e3 with h1 h2 h3
      have h4 := congrArg List.dropLast h3
      unfold sn at h4
      rw [List.dropLast_concat, List.dropLast_concat] at h4
      subst h1 h2 h4
      exact .inr ⟨hl, C, dx, fs, n, n3, e1, e4⟩
/-- such an object stays as it is -/
def Fix (o : HO) : Prop := ∀ C dx fs, o ≠ .ins C dx fs
theorem Sn.fix {lo : Prop} {o o' : HO} (h : Sn lo o o') (f : Fix o) : o' = o := by
  rcases h with h | ⟨_, C, dx, fs, n, n', h, _⟩
  · exact h
  · exact absurd h (f _ _ _)
theorem Sn.tbl {lo : Prop} {o o' : HO} (h : Sn lo o o') (f : ∀ ps, o ≠ .tbl ps) : ∀ ps, o' ≠ .tbl ps := by
  rcases h with h | ⟨_, C, dx, fs, n, n', _, h⟩
  · rw [h]
    exact f
  · rw [h]
    exact fun ps e => nomatch e
structure Xg (lo : Prop) (T : List (Addr × Str)) (H H' : Hp) : Prop where
  st : ∀ b o, H b = some o → (∀ ps, o ≠ .tbl ps) → ∃ o', H' b = some o' ∧ Sn lo o o'
  tb : Tabs T H → Tabs T H'
/-- loose: looks may be counted; strict: all stays -/
abbrev Xt (T : List (Addr × Str)) (H H' : Hp) : Prop := Xg True T H H'
abbrev Xs (T : List (Addr × Str)) (H H' : Hp) : Prop := Xg False T H H'
section
variable {lo : Prop} {T : List (Addr × Str)} {H H1 H2 : Hp} {K : PySem.W.Frag} {a p : Addr} {o : HO} {xs : List V}
theorem Xg.ex (e : ExtN H H1) (t : Tabs T H1) : Xg lo T H H1 := ⟨fun b o h n => ⟨o, e b o h n, .refl⟩, fun _ => t⟩
theorem Xg.refl : Xg lo T H H := ⟨fun _ o h _ => ⟨o, h, .refl⟩, id⟩
theorem Xg.trans (a : Xg lo T H H1) (b : Xg lo T H1 H2) : Xg lo T H H2 := ⟨fun c o h n => by
  obtain ⟨o1, h1, s1⟩ := a.st c o h n
  obtain ⟨o2, h2, s2⟩ := b.st c o1 h1 (s1.tbl n)
  exact ⟨o2, h2, s1.trans s2⟩, fun t => b.tb (a.tb t)⟩
theorem Xg.of (e : ∀ b o, H b = some o → H1 b = some o) : Xg lo T H H1 := ⟨fun b o h _ => ⟨o, e b o h, .refl⟩, fun t => t.ext e⟩
theorem Xg.new (h : H p = none) : Xg lo T H (upd H p o) := .of fun b u e => by rw [upd_ne (ne_of_none e h)]; exact e
/-- no table, no code object stands at p -/
def Pl (H : Hp) (p : Addr) : Prop := ∀ u, H p = some u → (∀ ps, u ≠ .tbl ps) ∧ ∀ f, u ≠ .ext f
theorem Pl.lst (h : H p = some (.lst xs)) : Pl H p := fun u e => by
  rw [h] at e
  cases e
  exact ⟨fun ps z => (nomatch z), fun f z => (nomatch z)⟩
theorem Pl.ins {C dx : Addr} {fs : List (Str × V)} (h : H p = some (.ins C dx fs)) : Pl H p := fun u e => by
  rw [h] at e
  cases e
  exact ⟨fun ps z => (nomatch z), fun f z => (nomatch z)⟩
theorem tabs_upd {H' : Hp} (t : Tabs T H') (h : Pl H' p) : Tabs T (upd H' p o) := fun q hq => by
  obtain ⟨ps, h1, h2, h3⟩ := t q hq
  refine ⟨ps, by rw [upd_ne fun z => by rw [z] at h1; exact (h _ h1).1 _ rfl]; exact h1, h2, fun pos cv hc => ?_⟩
  obtain ⟨c, e1, e2⟩ := h3 pos cv hc
  exact ⟨c, e1, by rw [upd_ne fun z => by rw [z] at e2; exact (h _ e2).2 _ rfl]; exact e2⟩
/-- no proper object of H stands at p -/
def Nw (H : Hp) (p : Addr) : Prop := ∀ o, H p = some o → ∃ ps, o = .tbl ps
theorem Nw.of (h : H p = none) : Nw H p := fun o e => by
  rw [h] at e
  cases e
theorem Xg.nw (e : Xg lo T H H1) (h : Nw H1 p) : Nw H p := fun o ho => by
  cases o with
  | tbl ps => exact ⟨ps, rfl⟩
  | _ =>
    obtain ⟨o', h1, s⟩ := e.st p _ ho fun ps z => by cases z
    obtain ⟨ps, h2⟩ := h _ h1
    exact absurd h2 (s.tbl (fun ps z => by cases z) ps)
theorem Nw.ne (h : Nw H p) (ha : H a = some o) (ho : ∀ ps, o ≠ .tbl ps) : a ≠ p := fun z => by
  rw [z] at ha
  obtain ⟨ps, e⟩ := h _ ha
  exact ho ps e
theorem Nw.nl (h : Nw H p) (ha : H a = some (.lst xs)) : a ≠ p := h.ne ha fun ps z => by cases z
/-- an object that H does not know is written in a later heap -/
theorem Xg.put {H' : Hp} (e : Xg lo T H H') (h : Nw H p) (hl : Pl H' p) : Xg lo T H (upd H' p o) :=
  ⟨fun b u hb n => by rw [upd_ne (h.ne hb n)]; exact e.st b u hb n, fun t => tabs_upd (e.tb t) hl⟩
theorem Xg.mut {H' : Hp} {ys : List V} (e : Xg lo T H H') (h : Nw H p) (hl : H' p = some (.lst ys)) : Xg lo T H (upd H' p (.lst xs)) := e.put h (.lst hl)
/-- an instance's last field "seen" changes -/
theorem Xg.see (hlo : lo) {C dx : Addr} {fs : List (Str × V)} {n n' : Int} (h : H p = some (.ins C dx (fs ++ sn n))) : Xg lo T H (upd H p (.ins C dx (fs ++ sn n'))) :=
  ⟨fun b u hb _ => by
    by_cases e : b = p
    · subst e
      rw [h] at hb
      exact ⟨_, upd_same .., .inr ⟨hlo, C, dx, fs, n, n', (Option.some.inj hb).symm, rfl⟩⟩
    · exact ⟨u, by rw [upd_ne e]; exact hb, .refl⟩, fun t => tabs_upd t (.ins h)⟩
theorem Xg.fix (e : Xg lo T H H1) (h : H a = some o) (f : Fix o) (n : ∀ ps, o ≠ .tbl ps) : H1 a = some o := by
  obtain ⟨o', h1, s⟩ := e.st a o h n
  rw [h1, s.fix f]
theorem Xg.lst (e : Xg lo T H H1) (h : H a = some (.lst xs)) : H1 a = some (.lst xs) := e.fix h (fun _ _ _ z => by cases z) fun ps z => by cases z
theorem Xg.tup (e : Xg lo T H H1) (h : H a = some (.tup xs)) : H1 a = some (.tup xs) := e.fix h (fun _ _ _ z => by cases z) fun ps z => by cases z
theorem Xg.ins {C dx : Addr} {fs : List (Str × V)} (e : Xg lo T H H1) (h : H a = some (.ins C dx fs)) (hs : ∀ fs' n, fs ≠ fs' ++ sn n) : H1 a = some (.ins C dx fs) := by
  obtain ⟨o', h1, s⟩ := e.st a _ h fun ps z => by cases z
  rcases s with s | ⟨_, C2, dx2, fs2, n, n', s1, s2⟩
  · rw [h1, s]
  · injection s1 with _ _ s1
    exact absurd s1 (hs _ _)
theorem Xg.insSeen {C dx : Addr} {fs : List (Str × V)} {n : Int} (e : Xg lo T H H1) (h : H a = some (.ins C dx (fs ++ sn n))) : ∃ n', H1 a = some (.ins C dx (fs ++ sn n')) := by
  obtain ⟨o', h1, s⟩ := e.st a _ h fun ps z => by cases z
  rcases s with s | ⟨_, C2, dx2, fs2, n2, n', s1, s2⟩
  · exact ⟨n, by rw [h1, s]⟩
  · injection s1 with e1 e2 s1
    have h4 := congrArg List.dropLast s1
    unfold sn at h4
    rw [List.dropLast_concat, List.dropLast_concat] at h4
    subst e1 e2 h4
    exact ⟨n', by rw [h1, s2]⟩
theorem Xg.seq (e : Xg lo T H H1) (h : SqL K H a xs) : SqL K H1 a xs := by
  rcases h with (h | ⟨o, h⟩) | h
  · exact .inl (.inl (e.lst h))
  · exact .inl (.inr ⟨o, e.fix h (fun _ _ _ z => by cases z) fun ps z => by cases z⟩)
  · exact .inr h
theorem Xg.seqT (e : Xg lo T H H1) (h : SqT K H a xs) : SqT K H1 a xs := by
  rcases h with (h | ⟨o, h⟩) | h
  · exact .inl (.inl (e.tup h))
  · exact .inl (.inr ⟨o, e.fix h (fun _ _ _ z => by cases z) fun ps z => by cases z⟩)
  · exact .inr h
theorem Xg.up (e : Xs T H H1) : Xt T H H1 := ⟨fun b o h n => by
  obtain ⟨o', h1, s⟩ := e.st b o h n
  rcases s with s | ⟨z, _⟩
  · exact ⟨o', h1, .inl s⟩
  · exact z.elim, e.tb⟩
/-- strict: all but tables stays -/
theorem Xg.same (e : Xs T H H1) (h : H a = some o) (n : ∀ ps, o ≠ .tbl ps) : H1 a = some o := by
  obtain ⟨o', h1, s⟩ := e.st a o h n
  rcases s with s | ⟨z, _⟩
  · rw [h1, s]
  · exact z.elim
theorem Xt.new (h : H p = none) : Xt T H (upd H p o) := Xg.new h
theorem Xt.ex (e : ExtN H H1) (t : Tabs T H1) : Xt T H H1 := Xg.ex e t
theorem Xt.refl : Xt T H H := Xg.refl
theorem Xt.trans (a : Xt T H H1) (b : Xt T H1 H2) : Xt T H H2 := Xg.trans a b
theorem Xt.lst (e : Xt T H H1) (h : H a = some (.lst xs)) : H1 a = some (.lst xs) := Xg.lst e h
theorem Xt.seq (e : Xt T H H1) (h : SqL K H a xs) : SqL K H1 a xs := Xg.seq e h
theorem Xs.new (h : H p = none) : Xs T H (upd H p o) := Xg.new h
theorem Xs.refl : Xs T H H := Xg.refl
end
/-! ### a def called with the handled exception -/
structure FnHp (P : Program) (w : World) (K : PySem.W.Frag) (mg : Str → Option Value) (base : Heap) (k : Nat) (f : Addr) (fd : FuncData) (ps : List Str) (sp : Addr × Obj → List V → Hp → VK → Prop) : Prop where
  len : ∀ p vs H Q, sp p vs H Q → vs.length = ps.length
  run : ∀ (A : Around) (outer : List Env) (s : Shared) (H : Hp) (args : Args) (us : List Value) (vs : List V) (Q : VK) (p : Addr × Obj), L2H.RoomH k A → L2H.Hot1 A p → L2H.PinOk outer H s p → Env0 P w K mg base A outer s H → BindsTo s fd args (ps.zip us) → Vals vs us → sp p vs H Q →
    codeAny (model P w) A (.call (.ref f) args) (CR CX0 outer P w H s Q E0) s
section
variable {P : Program} {w : World} {K : PySem.W.Frag} {mg : Str → Option Value} {base : Heap}
theorem fn_hp {k : Nat} {x qual : Str} {params : Arguments} {body : List Stmt} {scope : Scope} {f : Addr} {fd : FuncData} {N ps : List Str} {sp : Addr × Obj → List V → Hp → VK → Prop} (F : FunD K x qual params body scope [] [] f fd) (S : FnScope N ps scope)
    (len : ∀ p vs H Q, sp p vs H Q → vs.length = ps.length)
    (hbody : ∀ (cdv : Value) (A : Around) (outer : List Env) (s : Shared) (H : Hp) (vs : List V) (Q : VK) (p : Addr × Obj), L2H.Hot1 A p → L2H.RoomH k (A.deeper (envOfC qual scope s.heap.objs.size f cdv)) → sp p vs H Q →
      ∃ t, PSs (L2H.cxH CX0 P w K mg base N qual scope f cdv A outer s H E0 p) body t ∧ t { nx := fun _ H' => Q .non H', rt := Q } (L2.start N vs) H) :
    FnHp P w K mg base (k + 1) f fd ps sp := by
  obtain ⟨oc, od, dV, kV, doc, pm, an, cdv, ct, osl, rfl, lk, hcd, _, _⟩ := F.ex
  refine ⟨len, fun A outer s H args us vs Q p hr hot hpin e0 hb r hsp => ?_⟩
  have hl := len _ _ _ _ hsp
  have KX : K.In s.heap := e0.mod.kin.keeps fun b o e => (e0.bs b o e).1
  have lim : s.heap.NoLimit := e0.mod.nolimit.keeps fun b o e => (e0.bs b o e).1
  refine codeAny_call_function hr.depth (KX _ _ lk) rfl S.co S.gen rfl (PySem.W.codeRec_of KX hcd) (hb _ _ _ _ ?_)
  refine wpAny_newFunctionEnv_cells S.kind (fun ⟨n, v⟩ hy => ?_) fun env he s1 x => ?_
  · exact (S.par n (List.of_mem_zip hy).1).imp id fun q => ⟨q, PySem.W.cellsFrom_some _ _ _ (.inl q)⟩
  subst he
  refine ⟨lim.keeps x.toInCall.keep, codeAny_func ?_⟩
  obtain ⟨t, ht, hq⟩ := hbody cdv A outer s H vs Q p hot (hr.deeper _) hsp
  refine wpAny_mono (ht.run [] s1 (L2.start N vs) H _ (L2H.inv_startH S hpin e0 hl r x) hq) (fun fl s' hs => ?_) fun e s' hs => hs
  cases fl with
  | ret u =>
    obtain ⟨v, σ', H', J, rv, q⟩ := hs
    exact ⟨v, H', J.os, J.bare, J.base, J.hok, rv, q⟩
  | next =>
    obtain ⟨σ', H', J, q⟩ := hs
    exact ⟨V.non, H', J.os, J.bare, J.base, J.hok, rfl, q⟩
  | brk =>
    obtain ⟨_, _, _, q⟩ := hs
    exact False.elim q
  | cont =>
    obtain ⟨_, _, _, q⟩ := hs
    exact False.elim q
end
section
variable {X : Cx} {k : Nat} {f : Addr} {fd : FuncData} {ps : List Str} {sp : Addr × Obj → List V → Hp → VK → Prop} {x : Str} {q pos : Pos} {e : Expr} {es : List Expr} {t : TA}
/-- its call, p the handled exception that the context bears -/
theorem pe_callHp {p : Addr × Obj} (F : FnHp X.prog X.w X.K X.mg X.base k f fd ps sp) (hr : L2H.RoomH k X.A) (hot : L2H.Hot1 X.A p) (hp : p ∈ X.pn) (hg : Gl X x) (hm : X.mg x = some (.ref f)) (hk : PySem.W.keepIn X.K (.ref f) = true) (hb : Binds X.K fd ps [])
    (ha : PA X (e :: es) t) (hdb : (x == ("__debug__" : Str)) = false) (he : starEach (e :: es) X.env = (false, eval e X.env) :: starEach es X.env := by rfl) (hpl : (backTo pos (starEach es X.env)).any (·.1) = false := by rfl) :
    PE X (.Call (.Name x q) (e :: es) [] pos) (fun σ H Q => t σ H fun vs H1 => sp p vs H1 Q) := by
  refine ⟨fun pins s σ H Q I h => ?_⟩
  refine wpAny_Call_Name_kw (ld_glob I hg hm ?_ hdb)
  refine PySem.W.callWith_K (h₀ := X.base) I.ok.mod.kin hk (thn (ha.run pos pins s σ H _ I h) fun us s1 ⟨vs, H1, I1, r, h2⟩ => ⟨I1.kIn, ?_⟩) he hpl
  have hl : us.length = ps.length := by rw [← r.length]; exact F.len _ _ _ _ h2
  have b := hb s1 us I1.kIn (by rw [List.append_nil]; exact hl)
  rw [List.append_nil] at b
  have P1 := I1.pin p (List.mem_append_left _ hp)
  have hpin : L2H.PinOk X.stack H1 s1 p := ⟨P1.1, P1.2.1, fun hm => (List.mem_cons.mp (I1.stkSub p.1 hm)).elim P1.2.2.1 P1.2.2.2.1, P1.2.2.2.2⟩
  refine wpAny_call (codeAny_mono (F.run X.A X.stack s1 H1 ⟨us, []⟩ us vs Q p hr hot hpin I1.env0 b r h2) fun r s' hq => ?_)
  cases r with
  | error e => exact hq.elim
  | ok fl =>
    cases fl with
    | ret u => exact I1.after hq
    | next => exact hq.elim
    | brk => exact hq.elim
    | cont => exact hq.elim
/-- isinstance(e, c), e a pinned exception -/
theorem call_isP {a D : Addr} {oe : Obj} (C : ExcC X.K D) (hp : (a, oe) ∈ X.pn) (hz : Zc (.ref D) none oe) (hf : ∃ vs, oe.data = .fields vs) : CallR X (.builtin "isinstance") (rIsE X.K D a) := by
  intro pins s σ H xs us Q I r h
  obtain ⟨c, cv, b, rfl, hcv, e, q⟩ := h
  cases r with
  | cons rx rr =>
    cases rr with
    | cons rt rr =>
      cases rr
      cases rx
      have ec := hcv _ rt
      subst ec
      obtain ⟨hget, _⟩ := I.pin (a, oe) (List.mem_append_left _ hp)
      obtain ⟨vs, hv⟩ := hf
      obtain ⟨oc, od, oda, osl⟩ := oe
      obtain ⟨h1, h2⟩ := hz
      dsimp only at h1 h2 hv
      subst h1 h2 hv
      exact PySem.W.kia_one (PySem.W.handS_kitx_exc C.hg C.hk C.hs C.hd C.ha C.hn C.ht C.hm) I.kIn (H := fun h => PySem.W.InstAt h a _ D none) ⟨hget, rfl, rfl, trivial⟩ e (fun z => nomatch z) fun tk => ⟨.bl b, H, I.kept (t' := tk) fun _ _ z => z, rfl, q⟩
end
end Tw

set_option maxHeartbeats 4000000
namespace Tw
open PySem PySem.Spec PyProof.Rows L2 LamX
/-! ### what the built-in names stand for -/
section
theorem b_len : bootBuiltins "len" = some (.builtin "len") := by decide +kernel
theorem b_max : bootBuiltins "max" = some (.builtin "max") := by decide +kernel
theorem b_min : bootBuiltins "min" = some (.builtin "min") := by decide +kernel
theorem b_sum : bootBuiltins "sum" = some (.builtin "sum") := by decide +kernel
theorem b_all : bootBuiltins "all" = some (.builtin "all") := by decide +kernel
theorem b_ord : bootBuiltins "ord" = some (.builtin "ord") := by decide +kernel
theorem b_sorted : bootBuiltins "sorted" = some (.builtin "sorted") := by decide +kernel
theorem b_isinstance : bootBuiltins "isinstance" = some (.builtin "isinstance") := by decide +kernel
theorem b_int : bootBuiltins "int" = some (.type "int") := by decide +kernel
theorem b_str : bootBuiltins "str" = some (.type "str") := by decide +kernel
theorem b_bool : bootBuiltins "bool" = some (.type "bool") := by decide +kernel
theorem b_list : bootBuiltins "list" = some (.type "list") := by decide +kernel
theorem b_tuple : bootBuiltins "tuple" = some (.type "tuple") := by decide +kernel
theorem b_set : bootBuiltins "set" = some (.type "set") := by decide +kernel
theorem b_ValueError : bootBuiltins "ValueError" = some (.type "ValueError") := by decide +kernel
end
/-! ### defs by names -/
/-- the function object of the def that stands at a place -/
def fdOf (K : PySem.W.Frag) (at_ : He.Defn) : FuncData := match K.lookup (He.fAd K at_) with
  | some ⟨_, _, .func fd, _⟩ => fd
  | _ => default
theorem fdOf_of {K : PySem.W.Frag} {at_ : He.Defn} {x q : Str} {ps : Arguments} {b : List Stmt} {sc : Scope} {d : List V} {k : List (Str × V)} {fd : FuncData} (F : FunD K x q ps b sc d k (He.fAd K at_) fd) : FunD K x q ps b sc d k (He.fAd K at_) (fdOf K at_) := by
  have e : fdOf K at_ = fd := by
    obtain ⟨oc, od, dV, kV, doc, pm, an, cdv, ct, osl, e, lk, _⟩ := F.ex
    unfold fdOf
    rw [lk]
  rw [e]
  exact F
abbrev OkN (P : Program) (w : World) (K : PySem.W.Frag) (mg : Str → Option Value) (base : Heap) (at_ : He.Defn) (k : Nat) (ps : List Str) (sp : Sp) : Prop := FnOk P w K mg base (L2N.CX P w) k (He.fAd K at_) (fdOf K at_) ps sp
/-! ### exceptions -/
structure ExcF (K : PySem.W.Frag) (mg : Str → Option Value) (x : Str) : Prop where
  g : mg x = some (.ref (He.ga K x))
  f : PySem.W.excIn K (He.ga K x) He.veBase "ValueError.__new__" = true ∧ PySem.W.keepIn K (.ref (He.ga K x)) = true ∧ PySem.W.subIn K (.ref (He.ga K x)) (.type "BaseException") = some true ∧ PySem.W.typeIn K (.ref (He.ga K x)) = some (.type "type")
section
variable {P : Program} {w : World} {K : PySem.W.Frag} {mg : Str → Option Value} {base : Heap} {N : List Str} {qual : Str} {scope : Scope} {f : Addr} {cd : Value} {A : Around} {outer : List Env} {s : Shared} {H : Hp} {E : XK}
/-- in a def's body: what a callee lets out leaves -/
theorem psE (σ : L2.St) : PassesAt (L2N.CX P w) (cxOf (L2N.CX P w) P w K mg base N qual scope f cd A outer s H E) σ ((fun _ => E) σ) :=
  L2N.passAt (W := fun cls d _ H' => E cls d H') (L2N.takes_of rfl rfl rfl rfl) σ
/-- raise C('..') in a def's body -/
theorem ps_rz {x m : Str} {j : Nat} {p p2 pos pos2 : Pos} (C : ExcF K mg x) (hg : scope.names.lookup x = some .globalImplicit) (hdb : (x == ("__debug__" : Str)) = false) :
    PS (cxOf (L2N.CX P w) P w K mg base N qual scope f cd A outer s H E) (.Raise (some (.Call (.Name x p) [.Constant (.str m) j p2] [] pos)) none pos2) (fun _ _ H' => E (.ref (He.ga K x)) none H') :=
  L2N.ps_raise (W := fun cls d _ H' => E cls d H') rfl (L2N.takes_of rfl rfl rfl rfl) (L2N.pmk_own (X := cxOf (L2N.CX P w) P w K mg base N qual scope f cd A outer s H E) PySem.F.excBase_ValueError C.f.1 C.g C.f.2.1 (raises_own C.f.2.2.1 C.f.2.2.2) hg hdb)
end
section
variable {X : Cx} {A : Around} {outer : List Env} {s : Shared} {H : Hp} {E : XK} {scope : Scope} {f c' : Addr}
/-- in a lambda's body -/
theorem psL (σ : L2.St) : PassesAt (L2N.CX X.prog X.w) (lamN X A outer s H E scope f c') σ ((fun _ => E) σ) :=
  L2N.passAt (W := fun cls d _ H' => E cls d H') lamN_takes σ
/-- in a block, nothing is let out -/
theorem ps0 {X : Cx} {P : Program} {w : World} (σ : L2.St) : PassesAt (L2N.CX P w) X σ ((fun _ => E0) σ) := fun _ _ _ _ _ _ h => by
  obtain ⟨_, _, _, _, _, _, _, _, _, _, _, _, z⟩ := h
  exact z.elim
theorem psP0 {X : Cx} {P : Program} {w : World} : Passes (L2N.CX P w) X E0 := fun pins σ H s e s' I c => ps0 σ pins H s e s' I c
end
section
variable {P : Program} {w : World} {K : PySem.W.Frag} {mg : Str → Option Value} {base : Heap} {N : List Str} {qual : Str} {scope : Scope} {f : Addr} {cd : Value} {A : Around} {outer : List Env} {s : Shared} {H : Hp} {E : XK}
theorem psP : Passes (L2N.CX P w) (cxOf (L2N.CX P w) P w K mg base N qual scope f cd A outer s H E) E := fun pins σ H s e s' I c => psE σ pins H s e s' I c
end
/-! ### the seven classes -/
def seven : List Str := ["BadNumber", "BadBits", "BadPlace", "BadText", "BadCode", "BadTree", "TooMany"]
def excCB (K : PySem.W.Frag) (C : Addr) : Bool :=
  decide (PySem.W.findIn K (.ref C) "__getattribute__" = some (some (.builtin "BaseException.__getattribute__"))) && (decide (PySem.W.findIn K (.ref C) "__getattr__" = some none) && (decide (PySem.W.subIn K (.ref C) (.type "BaseException") = some true) &&
  (PySem.W.hasDictIn K C && (decide (PySem.W.findIn K (.ref C) "__class__" = some (some (.builtin "object.__class__"))) && (decide (PySem.W.specialIn K (.builtin "object.__class__") "__get__" = some (some (.builtin "getset_descriptor.__get__"))) &&
  (decide (PySem.W.takesIn K (.builtin "object.__class__") = some true) && decide (PySem.W.mroIn K C (.type "object") = some true)))))))
theorem excCB_ok {K : PySem.W.Frag} {C : Addr} (h : excCB K C = true) : ExcC K C := by
  unfold excCB at h
  simp only [Bool.and_eq_true, decide_eq_true_eq] at h
  obtain ⟨h1, h2, h3, h4, h5, h6, h7, h8⟩ := h
  exact ⟨h1, h2, h3, h4, h5, h6, h7, h8⟩
/-- the seven, told apart -/
def exB (K : PySem.W.Frag) : Bool := seven.all fun x => excCB K (He.ga K x) && (decide (PySem.W.kitOne K (.ref (He.ga K x)) (.type "ValueError") = some true) && (decide (PySem.W.exmOne K (.ref (He.ga K x)) (.ref (He.ga K "TerseError")) = some true) && seven.all fun y => decide (PySem.W.kitOne K (.ref (He.ga K x)) (.ref (He.ga K y)) = some (decide (x = y)))))
structure Bad (K : PySem.W.Frag) (x : Str) : Prop where
  c : ExcC K (He.ga K x)
  v : PySem.W.kitOne K (.ref (He.ga K x)) (.type "ValueError") = some true
  t : PySem.W.exmOne K (.ref (He.ga K x)) (.ref (He.ga K "TerseError")) = some true
  k : ∀ y ∈ seven, PySem.W.kitOne K (.ref (He.ga K x)) (.ref (He.ga K y)) = some (decide (x = y))
theorem bad_of {K : PySem.W.Frag} {x : Str} (h : exB K = true) (hx : x ∈ seven) : Bad K x := by
  have h1 := List.all_eq_true.mp h x hx
  simp only [Bool.and_eq_true, decide_eq_true_eq] at h1
  obtain ⟨h1, h2, h3, h4⟩ := h1
  exact ⟨excCB_ok h1, h2, h3, fun y hy => of_decide_eq_true (List.all_eq_true.mp h4 y hy)⟩
end Tw

set_option maxHeartbeats 0
namespace Tw
open PySem PySem.Spec PyProof.Rows L2 LamX
def top (i : Nat) : Stmt := PySem.Challenge.pw_tersewood_k41_whole_coded.main.body.getD i (.Pass ⟨0, 0, 0, 0⟩)
def dd (n : Str) (i : Nat) : He.DefD := ⟨(n, none), n, n, defArgs (top i), defBody (top i), defScope (top i), [], []⟩
def fnL : List He.DefD := [dd "in_bits" 10, dd "need_bits" 11, dd "is_sign" 17, dd "need_text" 18, dd "letters_of" 19, dd "is_count" 22, dd "need_counts" 23, dd "lengths" 24, dd "need_lengths" 25, dd "words" 26, dd "coded" 27, dd "decoded" 28, dd "_law_cell" 30, dd "_law_drawn" 31, dd "_law_word" 32, dd "_law_told" 33, dd "_law_needs" 34, dd "_law_bits" 35, dd "_law_text" 36, dd "_law_least" 37, dd "_law_read" 38, dd "_law_refused_right" 39, dd "law" 40]
def faL : List He.Fa := [.glo "in_bits", .glo "need_bits", .glo "is_sign", .glo "need_text", .glo "letters_of", .glo "is_count", .glo "need_counts", .glo "lengths", .glo "need_lengths", .glo "words", .glo "coded", .glo "decoded", .glo "_law_cell", .glo "_law_drawn", .glo "_law_word", .glo "_law_told", .glo "_law_needs", .glo "_law_bits", .glo "_law_text", .glo "_law_least", .glo "_law_read", .glo "_law_refused_right", .glo "law", .free "range", .free "str", .free "all", .free "len", .free "ord", .free "sorted", .free "set", .free "isinstance", .free "int", .free "bool", .free "enumerate", .free "min", .free "max", .free "sum", .free "list", .free "ValueError", .free "tuple", .str "FIRST" " ", .str "LAST" "~", .int "BARRED" 37, .int "MOST" 512, .int "MOST_COUNTS" 94, .glo "TerseError", .exc "TerseError", .exm "TerseError" "TerseError" true, .glo "BadNumber", .exc "BadNumber", .exm "BadNumber" "TerseError" true, .glo "BadBits", .exc "BadBits", .exm "BadBits" "TerseError" true, .glo "BadPlace", .exc "BadPlace", .exm "BadPlace" "TerseError" true, .glo "BadText", .exc "BadText", .exm "BadText" "TerseError" true, .glo "BadCode", .exc "BadCode", .exm "BadCode" "TerseError" true, .glo "BadTree", .exc "BadTree", .exm "BadTree" "TerseError" true, .glo "TooMany", .exc "TooMany", .exm "TooMany" "TerseError" true]
abbrev R : PySem.W.OpenRow := PySem.W.OpenLaw.row PySem.Challenge.rw_tersewood_k41_whole_coded
def tf : List He.Defn := [("_law_refused_right", none), ("law", none)]
def tK (K : PySem.W.Frag) : List (Addr × Str) := [((He.cT K ("_law_refused_right", none)).2, (envOfC "_law_refused_right" (defScope (top 39)) 0 0 .none).qual ++ "<lambda>"), ((He.cT K ("law", none)).2, (envOfC "law" (defScope (top 40)) 0 0 .none).qual ++ "<lambda>")]
def exL (K : PySem.W.Frag) : Bool := exB K && (decide ((He.cT K ("_law_refused_right", none)).2 ≠ (He.cT K ("law", none)).2))
abbrev hk : PySem.W.Hook := He.hookX 5 faL fnL [] tf exL
def ob (s : PySem.W.SharedT) : He.AlX := He.obsX 5 faL fnL [] tf exL (HandSHeadRun.getT s)
theorem ob_eq (s : PySem.W.SharedT) : ob s = hk.obs s.abs := He.obsX_eq (HandSHeadRun.getT_eq s)
def loose0 : List Str := ["__name__", "TerseError", "BadNumber", "BadBits", "BadPlace", "BadText", "BadCode", "BadTree", "TooMany", "in_bits", "need_bits", "FIRST", "LAST", "BARRED", "MOST", "is_sign", "need_text", "letters_of", "MOST_COUNTS", "is_count"]
def loose1 : List Str := ["need_counts", "lengths", "need_lengths", "words", "coded", "decoded", "_law_cell", "_law_drawn", "_law_word", "_law_told", "_law_needs", "_law_bits", "_law_text", "_law_least", "_law_read", "_law_refused_right"]
def loose : List Str := loose0 ++ loose1
theorem run (w : World) : HandSHeadRun.RunEq R (PySem.W.view R.prog [40]) hk ob 30000 loose w := by
  intro os
  kernel_rfl
structure Tx (K : PySem.W.Frag) (mg : Str → Option Value) : Prop where
  hx : ∃ h, K.In h ∧ h.Ns mainGlobals mg ∧ He.SaysD faL fnL K
  more : exL K = true
section
variable {K : PySem.W.Frag} {mg : Str → Option Value}
theorem Tx.fct (T : Tx K mg) (i : Nat) {f : He.Fa} (h : faL[i]? = some f) : f.ok K = true := T.hx.choose_spec.2.2.fact i h
theorem Tx.glo (T : Tx K mg) (i : Nat) {x : Str} (h : faL[i]? = some (.glo x)) : mg x = some (.ref (He.ga K x)) := He.glo_ok T.hx.choose_spec.1 T.hx.choose_spec.2.1 (T.fct i h)
theorem Tx.free (T : Tx K mg) (i : Nat) {x : Str} (h : faL[i]? = some (.free x)) : mg x = none := He.free_ok T.hx.choose_spec.1 T.hx.choose_spec.2.1 (T.fct i h)
theorem Tx.int (T : Tx K mg) (i : Nat) {x : Str} {z : Int} (h : faL[i]? = some (.int x z)) : ∃ t, mg x = some (.int z t) := He.int_ok T.hx.choose_spec.1 T.hx.choose_spec.2.1 (T.fct i h)
theorem Tx.str (T : Tx K mg) (i : Nat) {x z : Str} (h : faL[i]? = some (.str x z)) : ∃ t, mg x = some (.str z t) := He.str_ok T.hx.choose_spec.1 T.hx.choose_spec.2.1 (T.fct i h)
theorem Tx.fd (T : Tx K mg) (i : Nat) {d : He.DefD} (h : fnL[i]? = some d) (h1 : d.dfl = []) (h2 : d.kwd = []) : FunD K d.name d.qual d.params d.body d.scope [] [] (He.fAd K d.at_) (fdOf K d.at_) := by
  obtain ⟨fd, F⟩ := T.hx.choose_spec.2.2.def_ i h
  have e1 : d.dvs K = [] := by unfold He.DefD.dvs; rw [h1]; rfl
  have e2 : d.kws K = [] := by unfold He.DefD.kws; rw [h2]; rfl
  rw [e1, e2] at F
  exact fdOf_of F
abbrev s_in_bits : Stmt := top 10
theorem Tx.F_in_bits (T : Tx K mg) : FunD K "in_bits" "in_bits" (defArgs s_in_bits) (defBody s_in_bits) (defScope s_in_bits) [] [] (He.fAd K ("in_bits", none)) (fdOf K ("in_bits", none)) := T.fd 0 rfl rfl rfl
theorem Tx.B_in_bits (T : Tx K mg) : Binds K (fdOf K ("in_bits", none)) ["number", "wide"] [] := T.F_in_bits.bindsN fun _ _ _ _ _ _ us hl => match us, hl with | [_, _], _ => rfl
abbrev N_in_bits : List Str := ["number", "wide", "found", "turn"]
theorem sc_in_bits : FnScope N_in_bits ["number", "wide"] (defScope s_in_bits) := ⟨rfl, rfl, rfl, by decide +kernel, rfl, by decide +kernel, by decide +kernel⟩
abbrev s_need_bits : Stmt := top 11
theorem Tx.F_need_bits (T : Tx K mg) : FunD K "need_bits" "need_bits" (defArgs s_need_bits) (defBody s_need_bits) (defScope s_need_bits) [] [] (He.fAd K ("need_bits", none)) (fdOf K ("need_bits", none)) := T.fd 1 rfl rfl rfl
theorem Tx.B_need_bits (T : Tx K mg) : Binds K (fdOf K ("need_bits", none)) ["bits"] [] := T.F_need_bits.bindsN fun _ _ _ _ _ _ us hl => match us, hl with | [_], _ => rfl
abbrev N_need_bits : List Str := ["bits", "sign"]
theorem sc_need_bits : FnScope N_need_bits ["bits"] (defScope s_need_bits) := ⟨rfl, rfl, rfl, by decide +kernel, rfl, by decide +kernel, by decide +kernel⟩
abbrev s_is_sign : Stmt := top 17
theorem Tx.F_is_sign (T : Tx K mg) : FunD K "is_sign" "is_sign" (defArgs s_is_sign) (defBody s_is_sign) (defScope s_is_sign) [] [] (He.fAd K ("is_sign", none)) (fdOf K ("is_sign", none)) := T.fd 2 rfl rfl rfl
theorem Tx.B_is_sign (T : Tx K mg) : Binds K (fdOf K ("is_sign", none)) ["thing"] [] := T.F_is_sign.bindsN fun _ _ _ _ _ _ us hl => match us, hl with | [_], _ => rfl
abbrev N_is_sign : List Str := ["thing"]
theorem sc_is_sign : FnScope N_is_sign ["thing"] (defScope s_is_sign) := ⟨rfl, rfl, rfl, by decide +kernel, rfl, by decide +kernel, by decide +kernel⟩
abbrev s_need_text : Stmt := top 18
theorem Tx.F_need_text (T : Tx K mg) : FunD K "need_text" "need_text" (defArgs s_need_text) (defBody s_need_text) (defScope s_need_text) [] [] (He.fAd K ("need_text", none)) (fdOf K ("need_text", none)) := T.fd 3 rfl rfl rfl
theorem Tx.B_need_text (T : Tx K mg) : Binds K (fdOf K ("need_text", none)) ["text"] [] := T.F_need_text.bindsN fun _ _ _ _ _ _ us hl => match us, hl with | [_], _ => rfl
abbrev N_need_text : List Str := ["text", "sign"]
theorem sc_need_text : FnScope N_need_text ["text"] (defScope s_need_text) := ⟨rfl, rfl, rfl, by decide +kernel, rfl, by decide +kernel, by decide +kernel⟩
abbrev s_letters_of : Stmt := top 19
theorem Tx.F_letters_of (T : Tx K mg) : FunD K "letters_of" "letters_of" (defArgs s_letters_of) (defBody s_letters_of) (defScope s_letters_of) [] [] (He.fAd K ("letters_of", none)) (fdOf K ("letters_of", none)) := T.fd 4 rfl rfl rfl
theorem Tx.B_letters_of (T : Tx K mg) : Binds K (fdOf K ("letters_of", none)) ["text"] [] := T.F_letters_of.bindsN fun _ _ _ _ _ _ us hl => match us, hl with | [_], _ => rfl
abbrev N_letters_of : List Str := ["text"]
theorem sc_letters_of : FnScope N_letters_of ["text"] (defScope s_letters_of) := ⟨rfl, rfl, rfl, by decide +kernel, rfl, by decide +kernel, by decide +kernel⟩
abbrev s_is_count : Stmt := top 22
theorem Tx.F_is_count (T : Tx K mg) : FunD K "is_count" "is_count" (defArgs s_is_count) (defBody s_is_count) (defScope s_is_count) [] [] (He.fAd K ("is_count", none)) (fdOf K ("is_count", none)) := T.fd 5 rfl rfl rfl
theorem Tx.B_is_count (T : Tx K mg) : Binds K (fdOf K ("is_count", none)) ["thing"] [] := T.F_is_count.bindsN fun _ _ _ _ _ _ us hl => match us, hl with | [_], _ => rfl
abbrev N_is_count : List Str := ["thing"]
theorem sc_is_count : FnScope N_is_count ["thing"] (defScope s_is_count) := ⟨rfl, rfl, rfl, by decide +kernel, rfl, by decide +kernel, by decide +kernel⟩
abbrev s_need_counts : Stmt := top 23
theorem Tx.F_need_counts (T : Tx K mg) : FunD K "need_counts" "need_counts" (defArgs s_need_counts) (defBody s_need_counts) (defScope s_need_counts) [] [] (He.fAd K ("need_counts", none)) (fdOf K ("need_counts", none)) := T.fd 6 rfl rfl rfl
theorem Tx.B_need_counts (T : Tx K mg) : Binds K (fdOf K ("need_counts", none)) ["counts"] [] := T.F_need_counts.bindsN fun _ _ _ _ _ _ us hl => match us, hl with | [_], _ => rfl
abbrev N_need_counts : List Str := ["counts", "count"]
theorem sc_need_counts : FnScope N_need_counts ["counts"] (defScope s_need_counts) := ⟨rfl, rfl, rfl, by decide +kernel, rfl, by decide +kernel, by decide +kernel⟩
abbrev s_lengths : Stmt := top 24
theorem Tx.F_lengths (T : Tx K mg) : FunD K "lengths" "lengths" (defArgs s_lengths) (defBody s_lengths) (defScope s_lengths) [] [] (He.fAd K ("lengths", none)) (fdOf K ("lengths", none)) := T.fd 7 rfl rfl rfl
theorem Tx.B_lengths (T : Tx K mg) : Binds K (fdOf K ("lengths", none)) ["counts"] [] := T.F_lengths.bindsN fun _ _ _ _ _ _ us hl => match us, hl with | [_], _ => rfl
abbrev N_lengths : List Str := ["counts", "found", "heaps", "at", "count", "one", "other"]
theorem sc_lengths : FnScope N_lengths ["counts"] (defScope s_lengths) := ⟨rfl, rfl, rfl, by decide +kernel, rfl, by decide +kernel, by decide +kernel⟩
abbrev s_need_lengths : Stmt := top 25
theorem Tx.F_need_lengths (T : Tx K mg) : FunD K "need_lengths" "need_lengths" (defArgs s_need_lengths) (defBody s_need_lengths) (defScope s_need_lengths) [] [] (He.fAd K ("need_lengths", none)) (fdOf K ("need_lengths", none)) := T.fd 8 rfl rfl rfl
theorem Tx.B_need_lengths (T : Tx K mg) : Binds K (fdOf K ("need_lengths", none)) ["some"] [] := T.F_need_lengths.bindsN fun _ _ _ _ _ _ us hl => match us, hl with | [_], _ => rfl
abbrev N_need_lengths : List Str := ["some", "one", "most"]
theorem sc_need_lengths : FnScope N_need_lengths ["some"] (defScope s_need_lengths) := ⟨rfl, rfl, rfl, by decide +kernel, rfl, by decide +kernel, by decide +kernel⟩
abbrev s_words : Stmt := top 26
theorem Tx.F_words (T : Tx K mg) : FunD K "words" "words" (defArgs s_words) (defBody s_words) (defScope s_words) [] [] (He.fAd K ("words", none)) (fdOf K ("words", none)) := T.fd 9 rfl rfl rfl
theorem Tx.B_words (T : Tx K mg) : Binds K (fdOf K ("words", none)) ["some"] [] := T.F_words.bindsN fun _ _ _ _ _ _ us hl => match us, hl with | [_], _ => rfl
abbrev N_words : List Str := ["some", "found", "number", "wide", "one", "at"]
theorem sc_words : FnScope N_words ["some"] (defScope s_words) := ⟨rfl, rfl, rfl, by decide +kernel, rfl, by decide +kernel, by decide +kernel⟩
abbrev s_coded : Stmt := top 27
theorem Tx.F_coded (T : Tx K mg) : FunD K "coded" "coded" (defArgs s_coded) (defBody s_coded) (defScope s_coded) [] [] (He.fAd K ("coded", none)) (fdOf K ("coded", none)) := T.fd 10 rfl rfl rfl
theorem Tx.B_coded (T : Tx K mg) : Binds K (fdOf K ("coded", none)) ["text"] [] := T.F_coded.bindsN fun _ _ _ _ _ _ us hl => match us, hl with | [_], _ => rfl
abbrev N_coded : List Str := ["text", "letters", "some", "sign", "row"]
theorem sc_coded : FnScope N_coded ["text"] (defScope s_coded) := ⟨rfl, rfl, rfl, by decide +kernel, rfl, by decide +kernel, by decide +kernel⟩
abbrev s_decoded : Stmt := top 28
theorem Tx.F_decoded (T : Tx K mg) : FunD K "decoded" "decoded" (defArgs s_decoded) (defBody s_decoded) (defScope s_decoded) [] [] (He.fAd K ("decoded", none)) (fdOf K ("decoded", none)) := T.fd 11 rfl rfl rfl
theorem Tx.B_decoded (T : Tx K mg) : Binds K (fdOf K ("decoded", none)) ["letters", "some", "many", "bits"] [] := T.F_decoded.bindsN fun _ _ _ _ _ _ us hl => match us, hl with | [_, _, _, _], _ => rfl
abbrev N_decoded : List Str := ["letters", "some", "many", "bits", "sign", "row", "found", "at", "turn", "end"]
theorem sc_decoded : FnScope N_decoded ["letters", "some", "many", "bits"] (defScope s_decoded) := ⟨rfl, rfl, rfl, by decide +kernel, rfl, by decide +kernel, by decide +kernel⟩
abbrev s__law_cell : Stmt := top 30
theorem Tx.F__law_cell (T : Tx K mg) : FunD K "_law_cell" "_law_cell" (defArgs s__law_cell) (defBody s__law_cell) (defScope s__law_cell) [] [] (He.fAd K ("_law_cell", none)) (fdOf K ("_law_cell", none)) := T.fd 12 rfl rfl rfl
theorem Tx.B__law_cell (T : Tx K mg) : Binds K (fdOf K ("_law_cell", none)) ["_law_script", "_law_k"] [] := T.F__law_cell.bindsN fun _ _ _ _ _ _ us hl => match us, hl with | [_, _], _ => rfl
abbrev N__law_cell : List Str := ["_law_script", "_law_k"]
theorem sc__law_cell : FnScope N__law_cell ["_law_script", "_law_k"] (defScope s__law_cell) := ⟨rfl, rfl, rfl, by decide +kernel, rfl, by decide +kernel, by decide +kernel⟩
abbrev s__law_drawn : Stmt := top 31
theorem Tx.F__law_drawn (T : Tx K mg) : FunD K "_law_drawn" "_law_drawn" (defArgs s__law_drawn) (defBody s__law_drawn) (defScope s__law_drawn) [] [] (He.fAd K ("_law_drawn", none)) (fdOf K ("_law_drawn", none)) := T.fd 13 rfl rfl rfl
theorem Tx.B__law_drawn (T : Tx K mg) : Binds K (fdOf K ("_law_drawn", none)) ["_law_cell_here", "_law_k"] [] := T.F__law_drawn.bindsN fun _ _ _ _ _ _ us hl => match us, hl with | [_, _], _ => rfl
abbrev N__law_drawn : List Str := ["_law_cell_here", "_law_k", "_law_more"]
theorem sc__law_drawn : FnScope N__law_drawn ["_law_cell_here", "_law_k"] (defScope s__law_drawn) := ⟨rfl, rfl, rfl, by decide +kernel, rfl, by decide +kernel, by decide +kernel⟩
abbrev s__law_word : Stmt := top 32
theorem Tx.F__law_word (T : Tx K mg) : FunD K "_law_word" "_law_word" (defArgs s__law_word) (defBody s__law_word) (defScope s__law_word) [] [] (He.fAd K ("_law_word", none)) (fdOf K ("_law_word", none)) := T.fd 14 rfl rfl rfl
theorem Tx.B__law_word (T : Tx K mg) : Binds K (fdOf K ("_law_word", none)) ["_law_e"] [] := T.F__law_word.bindsN fun _ _ _ _ _ _ us hl => match us, hl with | [_], _ => rfl
abbrev N__law_word : List Str := ["_law_e", "_law_flags", "_law_flag"]
theorem sc__law_word : FnScope N__law_word ["_law_e"] (defScope s__law_word) := ⟨rfl, rfl, rfl, by decide +kernel, rfl, by decide +kernel, by decide +kernel⟩
abbrev s__law_told : Stmt := top 33
theorem Tx.F__law_told (T : Tx K mg) : FunD K "_law_told" "_law_told" (defArgs s__law_told) (defBody s__law_told) (defScope s__law_told) [] [] (He.fAd K ("_law_told", none)) (fdOf K ("_law_told", none)) := T.fd 15 rfl rfl rfl
theorem Tx.B__law_told (T : Tx K mg) : Binds K (fdOf K ("_law_told", none)) ["_law_deed"] [] := T.F__law_told.bindsN fun _ _ _ _ _ _ us hl => match us, hl with | [_], _ => rfl
abbrev N__law_told : List Str := ["_law_deed", "_law_e"]
theorem sc__law_told : FnScope N__law_told ["_law_deed"] (defScope s__law_told) := ⟨rfl, rfl, rfl, by decide +kernel, rfl, by decide +kernel, by decide +kernel⟩
abbrev s__law_needs : Stmt := top 34
theorem Tx.F__law_needs (T : Tx K mg) : FunD K "_law_needs" "_law_needs" (defArgs s__law_needs) (defBody s__law_needs) (defScope s__law_needs) [] [] (He.fAd K ("_law_needs", none)) (fdOf K ("_law_needs", none)) := T.fd 16 rfl rfl rfl
theorem Tx.B__law_needs (T : Tx K mg) : Binds K (fdOf K ("_law_needs", none)) ["_law_number"] [] := T.F__law_needs.bindsN fun _ _ _ _ _ _ us hl => match us, hl with | [_], _ => rfl
abbrev N__law_needs : List Str := ["_law_number", "_law_found"]
theorem sc__law_needs : FnScope N__law_needs ["_law_number"] (defScope s__law_needs) := ⟨rfl, rfl, rfl, by decide +kernel, rfl, by decide +kernel, by decide +kernel⟩
abbrev s__law_bits : Stmt := top 35
theorem Tx.F__law_bits (T : Tx K mg) : FunD K "_law_bits" "_law_bits" (defArgs s__law_bits) (defBody s__law_bits) (defScope s__law_bits) [] [] (He.fAd K ("_law_bits", none)) (fdOf K ("_law_bits", none)) := T.fd 17 rfl rfl rfl
theorem Tx.B__law_bits (T : Tx K mg) : Binds K (fdOf K ("_law_bits", none)) ["_law_number", "_law_wide"] [] := T.F__law_bits.bindsN fun _ _ _ _ _ _ us hl => match us, hl with | [_, _], _ => rfl
abbrev N__law_bits : List Str := ["_law_number", "_law_wide", "_law_found", "_law_turn"]
theorem sc__law_bits : FnScope N__law_bits ["_law_number", "_law_wide"] (defScope s__law_bits) := ⟨rfl, rfl, rfl, by decide +kernel, rfl, by decide +kernel, by decide +kernel⟩
abbrev s__law_text : Stmt := top 36
theorem Tx.F__law_text (T : Tx K mg) : FunD K "_law_text" "_law_text" (defArgs s__law_text) (defBody s__law_text) (defScope s__law_text) [] [] (He.fAd K ("_law_text", none)) (fdOf K ("_law_text", none)) := T.fd 18 rfl rfl rfl
theorem Tx.B__law_text (T : Tx K mg) : Binds K (fdOf K ("_law_text", none)) ["_law_more", "_law_most"] [] := T.F__law_text.bindsN fun _ _ _ _ _ _ us hl => match us, hl with | [_, _], _ => rfl
abbrev N__law_text : List Str := ["_law_more", "_law_most", "_law_letters", "_law_found", "_law_j", "_law_here"]
theorem sc__law_text : FnScope N__law_text ["_law_more", "_law_most"] (defScope s__law_text) := ⟨rfl, rfl, rfl, by decide +kernel, rfl, by decide +kernel, by decide +kernel⟩
abbrev s__law_least : Stmt := top 37
theorem Tx.F__law_least (T : Tx K mg) : FunD K "_law_least" "_law_least" (defArgs s__law_least) (defBody s__law_least) (defScope s__law_least) [] [] (He.fAd K ("_law_least", none)) (fdOf K ("_law_least", none)) := T.fd 19 rfl rfl rfl
theorem Tx.B__law_least (T : Tx K mg) : Binds K (fdOf K ("_law_least", none)) ["_law_counts"] [] := T.F__law_least.bindsN fun _ _ _ _ _ _ us hl => match us, hl with | [_], _ => rfl
abbrev N__law_least : List Str := ["_law_counts", "_law_row", "_law_found"]
theorem sc__law_least : FnScope N__law_least ["_law_counts"] (defScope s__law_least) := ⟨rfl, rfl, rfl, by decide +kernel, rfl, by decide +kernel, by decide +kernel⟩
abbrev s__law_read : Stmt := top 38
theorem Tx.F__law_read (T : Tx K mg) : FunD K "_law_read" "_law_read" (defArgs s__law_read) (defBody s__law_read) (defScope s__law_read) [] [] (He.fAd K ("_law_read", none)) (fdOf K ("_law_read", none)) := T.fd 20 rfl rfl rfl
theorem Tx.B__law_read (T : Tx K mg) : Binds K (fdOf K ("_law_read", none)) ["_law_letters", "_law_row", "_law_many", "_law_bits_here"] [] := T.F__law_read.bindsN fun _ _ _ _ _ _ us hl => match us, hl with | [_, _, _, _], _ => rfl
abbrev N__law_read : List Str := ["_law_letters", "_law_row", "_law_many", "_law_bits_here", "_law_found", "_law_turn", "_law_fit", "_law_at"]
theorem sc__law_read : FnScope N__law_read ["_law_letters", "_law_row", "_law_many", "_law_bits_here"] (defScope s__law_read) := ⟨rfl, rfl, rfl, by decide +kernel, rfl, by decide +kernel, by decide +kernel⟩
abbrev s__law_refused_right : Stmt := top 39
theorem Tx.F__law_refused_right (T : Tx K mg) : FunD K "_law_refused_right" "_law_refused_right" (defArgs s__law_refused_right) (defBody s__law_refused_right) (defScope s__law_refused_right) [] [] (He.fAd K ("_law_refused_right", none)) (fdOf K ("_law_refused_right", none)) := T.fd 21 rfl rfl rfl
theorem Tx.B__law_refused_right (T : Tx K mg) : Binds K (fdOf K ("_law_refused_right", none)) ["_law_letters", "_law_some", "_law_many", "_law_bits_here"] [] := T.F__law_refused_right.bindsN fun _ _ _ _ _ _ us hl => match us, hl with | [_, _, _, _], _ => rfl
abbrev N__law_refused_right : List Str := ["_law_letters", "_law_some", "_law_many", "_law_bits_here", "_law_told_here", "_law_some_bad"]
theorem sc__law_refused_right : FnScope N__law_refused_right ["_law_letters", "_law_some", "_law_many", "_law_bits_here"] (defScope s__law_refused_right) := ⟨rfl, rfl, rfl, by decide +kernel, rfl, by decide +kernel, by decide +kernel⟩
abbrev s_law : Stmt := top 40
theorem Tx.F_law (T : Tx K mg) : FunD K "law" "law" (defArgs s_law) (defBody s_law) (defScope s_law) [] [] (He.fAd K ("law", none)) (fdOf K ("law", none)) := T.fd 22 rfl rfl rfl
theorem Tx.B_law (T : Tx K mg) : Binds K (fdOf K ("law", none)) ["_law_script"] [] := T.F_law.bindsN fun _ _ _ _ _ _ us hl => match us, hl with | [_], _ => rfl
abbrev N_law : List Str := ["_law_script", "_law_k", "_law_more", "_law_text_here", "_law_found", "_law_letters", "_law_some", "_law_many", "_law_bits_here", "_law_counts", "_law_sign", "_law_row", "_law_drawn_here", "_law_pairs", "_law_other", "_law_count"]
theorem sc_law : FnScope N_law ["_law_script"] (defScope s_law) := ⟨rfl, rfl, rfl, by decide +kernel, rfl, by decide +kernel, by decide +kernel⟩
theorem Tx.g_in_bits (T : Tx K mg) : mg "in_bits" = some (.ref (He.ga K "in_bits")) := T.glo 0 rfl
theorem Tx.g_need_bits (T : Tx K mg) : mg "need_bits" = some (.ref (He.ga K "need_bits")) := T.glo 1 rfl
theorem Tx.g_is_sign (T : Tx K mg) : mg "is_sign" = some (.ref (He.ga K "is_sign")) := T.glo 2 rfl
theorem Tx.g_need_text (T : Tx K mg) : mg "need_text" = some (.ref (He.ga K "need_text")) := T.glo 3 rfl
theorem Tx.g_letters_of (T : Tx K mg) : mg "letters_of" = some (.ref (He.ga K "letters_of")) := T.glo 4 rfl
theorem Tx.g_is_count (T : Tx K mg) : mg "is_count" = some (.ref (He.ga K "is_count")) := T.glo 5 rfl
theorem Tx.g_need_counts (T : Tx K mg) : mg "need_counts" = some (.ref (He.ga K "need_counts")) := T.glo 6 rfl
theorem Tx.g_lengths (T : Tx K mg) : mg "lengths" = some (.ref (He.ga K "lengths")) := T.glo 7 rfl
theorem Tx.g_need_lengths (T : Tx K mg) : mg "need_lengths" = some (.ref (He.ga K "need_lengths")) := T.glo 8 rfl
theorem Tx.g_words (T : Tx K mg) : mg "words" = some (.ref (He.ga K "words")) := T.glo 9 rfl
theorem Tx.g_coded (T : Tx K mg) : mg "coded" = some (.ref (He.ga K "coded")) := T.glo 10 rfl
theorem Tx.g_decoded (T : Tx K mg) : mg "decoded" = some (.ref (He.ga K "decoded")) := T.glo 11 rfl
theorem Tx.g__law_cell (T : Tx K mg) : mg "_law_cell" = some (.ref (He.ga K "_law_cell")) := T.glo 12 rfl
theorem Tx.g__law_drawn (T : Tx K mg) : mg "_law_drawn" = some (.ref (He.ga K "_law_drawn")) := T.glo 13 rfl
theorem Tx.g__law_word (T : Tx K mg) : mg "_law_word" = some (.ref (He.ga K "_law_word")) := T.glo 14 rfl
theorem Tx.g__law_told (T : Tx K mg) : mg "_law_told" = some (.ref (He.ga K "_law_told")) := T.glo 15 rfl
theorem Tx.g__law_needs (T : Tx K mg) : mg "_law_needs" = some (.ref (He.ga K "_law_needs")) := T.glo 16 rfl
theorem Tx.g__law_bits (T : Tx K mg) : mg "_law_bits" = some (.ref (He.ga K "_law_bits")) := T.glo 17 rfl
theorem Tx.g__law_text (T : Tx K mg) : mg "_law_text" = some (.ref (He.ga K "_law_text")) := T.glo 18 rfl
theorem Tx.g__law_least (T : Tx K mg) : mg "_law_least" = some (.ref (He.ga K "_law_least")) := T.glo 19 rfl
theorem Tx.g__law_read (T : Tx K mg) : mg "_law_read" = some (.ref (He.ga K "_law_read")) := T.glo 20 rfl
theorem Tx.g__law_refused_right (T : Tx K mg) : mg "_law_refused_right" = some (.ref (He.ga K "_law_refused_right")) := T.glo 21 rfl
theorem Tx.g_law (T : Tx K mg) : mg "law" = some (.ref (He.ga K "law")) := T.glo 22 rfl
theorem Tx.z_range (T : Tx K mg) : mg "range" = none := T.free 23 rfl
theorem Tx.z_str (T : Tx K mg) : mg "str" = none := T.free 24 rfl
theorem Tx.z_all (T : Tx K mg) : mg "all" = none := T.free 25 rfl
theorem Tx.z_len (T : Tx K mg) : mg "len" = none := T.free 26 rfl
theorem Tx.z_ord (T : Tx K mg) : mg "ord" = none := T.free 27 rfl
theorem Tx.z_sorted (T : Tx K mg) : mg "sorted" = none := T.free 28 rfl
theorem Tx.z_set (T : Tx K mg) : mg "set" = none := T.free 29 rfl
theorem Tx.z_isinstance (T : Tx K mg) : mg "isinstance" = none := T.free 30 rfl
theorem Tx.z_int (T : Tx K mg) : mg "int" = none := T.free 31 rfl
theorem Tx.z_bool (T : Tx K mg) : mg "bool" = none := T.free 32 rfl
theorem Tx.z_enumerate (T : Tx K mg) : mg "enumerate" = none := T.free 33 rfl
theorem Tx.z_min (T : Tx K mg) : mg "min" = none := T.free 34 rfl
theorem Tx.z_max (T : Tx K mg) : mg "max" = none := T.free 35 rfl
theorem Tx.z_sum (T : Tx K mg) : mg "sum" = none := T.free 36 rfl
theorem Tx.z_list (T : Tx K mg) : mg "list" = none := T.free 37 rfl
theorem Tx.z_ValueError (T : Tx K mg) : mg "ValueError" = none := T.free 38 rfl
theorem Tx.z_tuple (T : Tx K mg) : mg "tuple" = none := T.free 39 rfl
theorem Tx.c_FIRST (T : Tx K mg) : ∃ t, mg "FIRST" = some (.str " " t) := T.str 40 rfl
theorem Tx.c_LAST (T : Tx K mg) : ∃ t, mg "LAST" = some (.str "~" t) := T.str 41 rfl
theorem Tx.c_BARRED (T : Tx K mg) : ∃ t, mg "BARRED" = some (.int 37 t) := T.int 42 rfl
theorem Tx.c_MOST (T : Tx K mg) : ∃ t, mg "MOST" = some (.int 512 t) := T.int 43 rfl
theorem Tx.c_MOST_COUNTS (T : Tx K mg) : ∃ t, mg "MOST_COUNTS" = some (.int 94 t) := T.int 44 rfl
theorem Tx.g_TerseError (T : Tx K mg) : mg "TerseError" = some (.ref (He.ga K "TerseError")) := T.glo 45 rfl
theorem Tx.x_TerseError (T : Tx K mg) : ExcF K mg "TerseError" := ⟨T.glo 45 rfl, He.exc_ok (T.fct 46 rfl)⟩
theorem Tx.m_TerseError (T : Tx K mg) : PySem.W.exmOne K (.ref (He.ga K "TerseError")) (.ref (He.ga K "TerseError")) = some true := He.exm_ok (T.fct 47 rfl)
theorem Tx.g_BadNumber (T : Tx K mg) : mg "BadNumber" = some (.ref (He.ga K "BadNumber")) := T.glo 48 rfl
theorem Tx.x_BadNumber (T : Tx K mg) : ExcF K mg "BadNumber" := ⟨T.glo 48 rfl, He.exc_ok (T.fct 49 rfl)⟩
theorem Tx.m_BadNumber (T : Tx K mg) : PySem.W.exmOne K (.ref (He.ga K "BadNumber")) (.ref (He.ga K "TerseError")) = some true := He.exm_ok (T.fct 50 rfl)
theorem Tx.g_BadBits (T : Tx K mg) : mg "BadBits" = some (.ref (He.ga K "BadBits")) := T.glo 51 rfl
theorem Tx.x_BadBits (T : Tx K mg) : ExcF K mg "BadBits" := ⟨T.glo 51 rfl, He.exc_ok (T.fct 52 rfl)⟩
theorem Tx.m_BadBits (T : Tx K mg) : PySem.W.exmOne K (.ref (He.ga K "BadBits")) (.ref (He.ga K "TerseError")) = some true := He.exm_ok (T.fct 53 rfl)
theorem Tx.g_BadPlace (T : Tx K mg) : mg "BadPlace" = some (.ref (He.ga K "BadPlace")) := T.glo 54 rfl
theorem Tx.x_BadPlace (T : Tx K mg) : ExcF K mg "BadPlace" := ⟨T.glo 54 rfl, He.exc_ok (T.fct 55 rfl)⟩
theorem Tx.m_BadPlace (T : Tx K mg) : PySem.W.exmOne K (.ref (He.ga K "BadPlace")) (.ref (He.ga K "TerseError")) = some true := He.exm_ok (T.fct 56 rfl)
theorem Tx.g_BadText (T : Tx K mg) : mg "BadText" = some (.ref (He.ga K "BadText")) := T.glo 57 rfl
theorem Tx.x_BadText (T : Tx K mg) : ExcF K mg "BadText" := ⟨T.glo 57 rfl, He.exc_ok (T.fct 58 rfl)⟩
theorem Tx.m_BadText (T : Tx K mg) : PySem.W.exmOne K (.ref (He.ga K "BadText")) (.ref (He.ga K "TerseError")) = some true := He.exm_ok (T.fct 59 rfl)
theorem Tx.g_BadCode (T : Tx K mg) : mg "BadCode" = some (.ref (He.ga K "BadCode")) := T.glo 60 rfl
theorem Tx.x_BadCode (T : Tx K mg) : ExcF K mg "BadCode" := ⟨T.glo 60 rfl, He.exc_ok (T.fct 61 rfl)⟩
theorem Tx.m_BadCode (T : Tx K mg) : PySem.W.exmOne K (.ref (He.ga K "BadCode")) (.ref (He.ga K "TerseError")) = some true := He.exm_ok (T.fct 62 rfl)
theorem Tx.g_BadTree (T : Tx K mg) : mg "BadTree" = some (.ref (He.ga K "BadTree")) := T.glo 63 rfl
theorem Tx.x_BadTree (T : Tx K mg) : ExcF K mg "BadTree" := ⟨T.glo 63 rfl, He.exc_ok (T.fct 64 rfl)⟩
theorem Tx.m_BadTree (T : Tx K mg) : PySem.W.exmOne K (.ref (He.ga K "BadTree")) (.ref (He.ga K "TerseError")) = some true := He.exm_ok (T.fct 65 rfl)
theorem Tx.g_TooMany (T : Tx K mg) : mg "TooMany" = some (.ref (He.ga K "TooMany")) := T.glo 66 rfl
theorem Tx.x_TooMany (T : Tx K mg) : ExcF K mg "TooMany" := ⟨T.glo 66 rfl, He.exc_ok (T.fct 67 rfl)⟩
theorem Tx.m_TooMany (T : Tx K mg) : PySem.W.exmOne K (.ref (He.ga K "TooMany")) (.ref (He.ga K "TerseError")) = some true := He.exm_ok (T.fct 68 rfl)
theorem Tx.exb (T : Tx K mg) : exB K = true := by
  have h := T.more
  unfold exL at h
  first | exact h | (simp only [Bool.and_eq_true] at h; exact h.1)
theorem Tx.ne_0 (T : Tx K mg) : (He.cT K ("_law_refused_right", none)).2 ≠ (He.cT K ("law", none)).2 := by
  have h := T.more
  unfold exL at h
  simp only [Bool.and_eq_true, decide_eq_true_eq] at h
  exact h.2
theorem Tx.tk__law_refused_right (_ : Tx K mg) : ((He.cT K ("_law_refused_right", none)).2, ((envOfC "_law_refused_right" (defScope (top 39)) 0 0 .none).qual ++ "<lambda>" : Str)) ∈ tK K := by simp [tK]
theorem Tx.tu__law_refused_right (T : Tx K mg) : ∀ p ∈ tK K, p.1 = (He.cT K ("_law_refused_right", none)).2 → p.2 = ((envOfC "_law_refused_right" (defScope (top 39)) 0 0 .none).qual ++ "<lambda>" : Str) := fun p hp e => by
  unfold tK at hp
  simp only [List.mem_cons, List.not_mem_nil, or_false] at hp
  rcases hp with rfl | rfl
  · rfl
  · exact absurd e (Ne.symm T.ne_0)
theorem Tx.tk_law (_ : Tx K mg) : ((He.cT K ("law", none)).2, ((envOfC "law" (defScope (top 40)) 0 0 .none).qual ++ "<lambda>" : Str)) ∈ tK K := by simp [tK]
theorem Tx.tu_law (T : Tx K mg) : ∀ p ∈ tK K, p.1 = (He.cT K ("law", none)).2 → p.2 = ((envOfC "law" (defScope (top 40)) 0 0 .none).qual ++ "<lambda>" : Str) := fun p hp e => by
  unfold tK at hp
  simp only [List.mem_cons, List.not_mem_nil, or_false] at hp
  rcases hp with rfl | rfl
  · exact absurd e T.ne_0
  · rfl
end
end Tw

set_option maxHeartbeats 4000000
namespace Tw
open PySem PySem.Spec PyProof.Rows L2 LamX
/-! ### told(lambda: ..) -/
/-- what is wished of a refusal: its class's name is told -/
def EW (K : PySem.W.Frag) (T : List (Addr × Str)) (Q : VK) : XK := fun cls d H => ∃ x ∈ seven, cls = .ref (He.ga K x) ∧ d = none ∧ ∀ H', Xt T H H' → Q (.str x) H'
/-- the word of the exception -/
def spWord (K : PySem.W.Frag) (T : List (Addr × Str)) : Addr × Obj → List V → Hp → VK → Prop := fun p vs H Q => ∃ x ∈ seven, vs = [.ref p.1] ∧ Zc (.ref (He.ga K x)) none p.2 ∧ (∃ us, p.2.data = .fields us) ∧ ∀ H', Xt T H H' → Q (.str x) H'
/-- the context of told's frame -/
abbrev toldX (X : Cx) (Ng : List Str) (sg : Scope) (g : Addr) (cdg : Value) (s : Shared) (H : Hp) : Cx := cxOf CX0 X.prog X.w X.K X.mg X.base Ng "_law_told" sg g cdg X.A X.stack s H E0
section
variable {X : Cx}
theorem told_gen {Tt : List (Addr × Str)} {g gW c Pt : Addr} {k : Nat} {pg : Arguments} {sg : Scope} {fdT fdW : FuncData} {params : Arguments} {body : Expr} {scope : Scope} {t : XK → TE} {p lpos pos : Pos}
    {p1 p2 p3 p4 p5 p6 p7 p8 p9 p10 : Pos} (hg : Gl X "_law_told") (hm : X.mg "_law_told" = some (.ref g))
    (FT : FunD X.K "_law_told" "_law_told" pg [.Try [.Return (some (.Call (.Name "_law_deed" p1) [] [] p2)) p3] [.ExceptHandler (some (.Name "TerseError" p4)) (some "_law_e") [.Return (some (.Call (.Name "_law_word" p5) [.Name "_law_e" p6] [] p7)) p8] p9] [] [] p10] sg [] [] g fdT)
    (BT : Binds X.K fdT ["_law_deed"] []) (ST : FnScope ["_law_deed", "_law_e"] ["_law_deed"] sg) (l1 : sg.names.lookup ("_law_deed" : Str) = some .local) (l2 : sg.names.lookup ("_law_e" : Str) = some .local) (l3 : sg.names.lookup ("TerseError" : Str) = some .globalImplicit) (l4 : sg.names.lookup ("_law_word" : Str) = some .globalImplicit)
    (gE : X.mg "TerseError" = some (.ref (He.ga X.K "TerseError"))) (gW1 : X.mg "_law_word" = some (.ref gW)) (kW : PySem.W.keepIn X.K (.ref gW) = true) (BW : Binds X.K fdW ["_law_e"] []) (FW : FnHp X.prog X.w X.K X.mg X.base 1 gW fdW ["_law_e"] (spWord X.K Tt)) (xB : exB X.K = true)
    (TB : TabB X.base X.mg c Pt) (hcode : X.env.code = .ref c) (hmT : (Pt, X.env.qual ++ "<lambda>") ∈ Tt) (hu : ∀ p ∈ Tt, p.1 = Pt → p.2 = X.env.qual ++ "<lambda>") (hr : Room (k + 4) X.A) (L : LamS X.env.scope scope) (hdef : defaultsOf params X.env = ([], []))
    (hbind : ∀ (q : Str) (cl : List (Str × Addr)) (pm cv ctv : Value), bindArgs (PySem.W.kla_fn "<lambda>" q params body scope cl pm cv ctv) ⟨[], []⟩ = pure [])
    (hbody : ∀ (A : Around) (outer : List Env) (s : Shared) (H : Hp) (E : XK) (f c' : Addr), Room (k + 2) (A.deeper (lamEnv X scope s.heap.objs.size f c')) → PE (lamN X A outer s H E scope f c') body (t E)) :
    PE X (.Call (.Name "_law_told" p) [.Lambda params body scope lpos] [] pos) (fun σ H Q => Tabs Tt H ∧ ∀ H1, ExtN H H1 → Tabs Tt H1 → t (EW X.K Tt Q) σ H1 Q) := by
  refine ⟨fun pins s σ H Q I ⟨hT, h⟩ => ?_⟩
  obtain ⟨oc, od, dV, kV, doc, pm, an, cdv, ct, osl, rfl, lk, hcg, hD, _⟩ := FT.ex
  have edV : dV = .none := by
    rcases hD with ⟨_, e⟩ | ⟨e, _⟩
    · exact e
    · exact absurd rfl e
  refine wpAny_Call_Name_kw (ld_glob I hg hm ?_ (by decide))
  refine PySem.W.callWith_K (h₀ := X.base) I.ok.mod.kin FT.kp ?_ (by rfl) (by rfl)
  show wpAny _ _ (spliced ((false, eval (.Lambda params body scope lpos) X.env) :: backTo pos (starEach [] X.env))) _ _ s
  refine Calls.spliced_cons (lam_make2 I TB hcode hmT hu hT hdef (L.has I.ok) fun f c' pm' ctv H1 s' I1 eN T1 hf hfn hfr hco => ?_)
  refine Calls.spliced_nil ⟨I1.kIn, ?_⟩
  have b := BT s' [.ref f] I1.kIn rfl
  have rc : codeAny (model X.prog X.w) X.A (.call (.ref g) ⟨[.ref f], []⟩) (CR CX0 X.stack X.prog X.w H1 s' Q E0) s' := by
    refine run_ofS (k := k + 3) (N := ["_law_deed", "_law_e"]) (ps := ["_law_deed"]) (us := [.ref f]) (vs := [.ref f]) lk hcg ST hr I1.env0 b (.cons rfl .nil) rfl fun hr' => ?_
    have word : ∀ (a : Addr) (oe : Obj) (cls : Value) (d : Option Addr) (pn : List (Addr × Obj)), L2N.Zn cls d oe → (∃ vs, oe.data = .fields vs) →
        PSs ((toldX X ["_law_deed", "_law_e"] sg g cdv s' H1).suite a ((a, oe) :: pn)) [.Return (some (.Call (.Name "_law_word" p5) [.Name "_law_e" p6] [] p7)) p8]
          (fun D σ H => (∃ σ0 : L2.St, σ = σ0.set 1 (some (.ref a))) ∧ ∃ x ∈ seven, cls = .ref (He.ga X.K x) ∧ d = none ∧ ∀ H', Xt Tt H H' → D.rt (.str x) H') := by
      intro a oe cls d pn hz hfs
      have hot : L2H.Hot1 ((toldX X ["_law_deed", "_law_e"] sg g cdv s' H1).suite a ((a, oe) :: pn)).A (a, oe) := by
        obtain ⟨vs, hv⟩ := hfs
        exact ⟨rfl, vs, hv, hz.2.2 vs hv⟩
      have hp := pss_one (ps_ret (pos := p8) (pe_callHp (X := (toldX X ["_law_deed", "_law_e"] sg g cdv s' H1).suite a ((a, oe) :: pn)) (x := "_law_word") (q := p5) (pos := p7) (p := (a, oe)) FW
        (L2H.RoomH.mono (k := k + 3) ⟨hr'.dp, hr'.un⟩ (by omega)) hot List.mem_cons_self (show sg.names.lookup ("_law_word" : Str) = _ from l4) gW1 kW BW (pa_cons (pe_var (i := 1) (pos := p6) rfl (.inl l2)) pa_nil) (by decide)))
      refine ⟨fun pins s σ H D I ⟨⟨σ0, h1⟩, x, hx, e1, e2, h2⟩ => hp.run pins s σ H D I ?_⟩
      have hl : σ.length = 2 := I.len
      have h1 : σ[1]? = some (some (.ref a)) := by
        rw [h1] at hl ⊢
        rw [List.length_set] at hl
        rw [List.getElem?_set_self (by omega)]
      refine ⟨.ref a, h1, x, hx, rfl, ?_, hfs, h2⟩
      rw [← e1, ← e2]
      exact hz.zc
    refine ⟨_, PSs.nox (pss_one (L2N.ps_try_as (X := (toldX X ["_law_deed", "_law_e"] sg g cdv s' H1).nox) (c := .ref (He.ga X.K "TerseError")) (i := 1) (Wout := fun _ _ _ _ => False)
      (tb := fun W D σ' H' => ∃ Ech : XK, (∀ cls d σ' H', Ech cls d H' → W cls d σ' H') ∧ σ'[0]? = some (some (.ref f)) ∧ H' c' = some (CodeO c' (X.env.qual ++ "<lambda>")) ∧ t Ech σ H' D.rt)
      rfl rfl ST.nd rfl l2 ⟨l3, by decide, .inl gE⟩ (fun _ _ x => by obtain ⟨_, _, _, _, _, _, _, _, _, _, _, _, _, _, _, _, z⟩ := x; exact z.elim) (fun W pn xe tk _ => ?_) word)), ?_⟩
    · refine ⟨fun pins s2 σ2 H2 D I2 ⟨Ech, hW, h1, h2, h3⟩ => ?_⟩
      have hp := act (pn := pn) (xe := xe) (W := W) (E := Ech) (tb := t Ech) (p1 := p1) (p2 := p2) (a := "_law_deed") (i := 0) (Ng := ["_law_deed", "_law_e"]) (CXg := CX0) (Eg := E0) (qg := "_law_told") (sg := sg) (g := g) (cdg := cdv) I1 L hf hfn hfr (hbind _ _ _ _ _) tk hW hr'
        (fun A outer s H hr2 => hbody A outer s H Ech f c' hr2) rfl (.inl l1) (by decide) (by decide)
      exact (pss_one (ps_ret (pos := p3) hp)).run pins s2 σ2 H2 D I2 ⟨h1, h2, h3⟩
    · refine ⟨EW X.K Tt Q, fun cls d σ2 H2 ⟨x, hx, e1, e2, h2⟩ => ?_, rfl, hco, h H1 eN T1⟩
      refine ⟨true, by rw [e1]; exact (bad_of xB hx).t, fun _ a na => ?_, fun z => by cases z⟩
      exact ⟨⟨σ2, rfl⟩, x, hx, e1, e2, h2⟩
  refine wpAny_call (codeAny_mono rc fun r s2 hq => ?_)
  cases r with
  | error e => exact (show False from hq).elim
  | ok fl =>
    cases fl with
    | ret u => exact I1.after hq
    | next => exact False.elim hq
    | brk => exact False.elim hq
    | cont => exact False.elim hq
end
end Tw

set_option maxHeartbeats 4000000
namespace Tw
open PySem PySem.Spec PyProof.Rows L2 LamX
/-! ### comprehensions whose elements change nothing that stood -/
def Yy (y : Nat → V → Prop) : Nat → Hp → V → Hp → Prop := fun i H x H' => H' = H ∧ y i x
def kept (n : Nat) (f : Nat → Bool) (r : Nat → V) : List V := ((List.range n).filter f).map r
theorem kept_yes {n : Nat} {f : Nat → Bool} {r : Nat → V} (h : f n = true) : kept (n + 1) f r = kept n f r ++ [r n] := by
  unfold kept
  rw [List.range_succ, List.filter_append, List.map_append, List.filter_cons, if_pos h]
  rfl
theorem kept_no {n : Nat} {f : Nat → Bool} {r : Nat → V} (h : f n = false) : kept (n + 1) f r = kept n f r := by
  unfold kept
  rw [List.range_succ, List.filter_append, List.map_append, List.filter_cons, if_neg (by rw [h]; decide)]
  exact List.append_nil _
theorem kept_len (n : Nat) (f : Nat → Bool) (r : Nat → V) : (kept n f r).length ≤ n := by
  unfold kept
  rw [List.length_map]
  exact Nat.le_trans (List.length_filter_le _ _) (by rw [List.length_range]; exact Nat.le_refl _)
theorem kept_all (n : Nat) (r : Nat → V) : kept n (fun _ => true) r = (List.range n).map r := by
  unfold kept
  rw [List.filter_eq_self.mpr fun _ _ => rfl]
section
variable {lo : Prop} {T : List (Addr × Str)} {J : It} {n : Nat} {G : Hp → Prop} {y : Nat → V → Prop} {te : TE} {tt : TT} {j : Nat} {σ : L2.St} {H1 : Hp} {D : Addr} {Qd : Hp → Prop} {f : Nat → Bool} {r : Nat → V}
theorem wipe1 (σ : L2.St) (j : Nat) (x : Option V) : wipe ((wipe σ [j]).set j x) [j] = wipe σ [j] := by
  show ((σ.set j none).set j x).set j none = σ.set j none
  rw [List.set_set, List.set_set]
/-- with a test -/
theorem lcFg (w : Walk J n G (Yy y)) (hD : H1 D = none) (hn : n ≤ 1000000) (hG : ∀ H', Xg lo T H1 H' → G H') (f : Nat → Bool) (r : Nat → V)
    (ht : ∀ i x H', i < n → y i x → Xg lo T H1 H' → ∀ Q : Bool → Hp → Prop, (∀ H4, Xg lo T H' H4 → Q (f i) H4) → tt ((wipe σ [j]).set j (some x)) H' Q)
    (he : ∀ i x H', i < n → y i x → f i = true → Xg lo T H1 H' → ∀ Q : VK, (∀ H4, Xg lo T H' H4 → Q (r i) H4) → te ((wipe σ [j]).set j (some x)) H' Q)
    (hd : ∀ H', Xg lo T H1 H' → H' D = some (.lst (kept n f r)) → Qd H') :
    ∃ W : Nat → Nat → Hp → Prop, (∃ m, W 0 m (upd H1 D (.lst []))) ∧ ∀ i m H, W i m H →
      (J.stop i H ∧ Qd H) ∨ (J.go i H ∧ ∃ Nx : Hp → Prop, (∀ H', Nx H' → ∃ m', m' < m ∧ W (i + 1) m' H') ∧ ∀ x H', J.yld i H x H' → gName j x (wipe σ [j]) H' fun σ2 H2 => wipe σ2 [j] = wipe σ [j] ∧ tt σ2 H2 fun b H3 =>
        if b = true then te σ2 H3 fun y H4 => ∃ acc, H4 D = some (.lst acc) ∧ acc.length < sizeLine ∧ Nx (upd H4 D (.lst (acc ++ [y]))) else Nx H3) := by
  have hz : ∀ i, i < n → (kept i f r).length < sizeLine := fun i hi => Nat.lt_of_le_of_lt (Nat.le_trans (kept_len i f r) (Nat.le_trans (Nat.le_of_lt hi) hn)) (by decide)
  refine lc_it w (fun i H => Xg lo T H1 H ∧ H D = some (.lst (kept i f r))) ⟨Xg.new hD, by rw [upd_same]; rfl⟩ (fun i H _ p => hG H p.1) (fun i x H H' hi p hy => ?_) fun H p => hd H p.1 p.2
  obtain ⟨eH, hy⟩ := hy
  subst eH
  refine ⟨wipe1 σ j _, ht i x H' hi hy p.1 _ fun H4 x4 => ?_⟩
  cases hf : f i with
  | true =>
    refine iteT (he i x H4 hi hy hf (p.1.trans x4) _ fun H5 x5 => ?_)
    have e5 := (x4.trans x5).lst p.2
    refine ⟨kept i f r, e5, hz i hi, ((p.1.trans x4).trans x5).mut (.of hD) e5, ?_⟩
    rw [upd_same, kept_yes hf]
  | false =>
    refine iteF ⟨p.1.trans x4, ?_⟩
    rw [kept_no hf]
    exact x4.lst p.2
/-- without one -/
theorem lcPg (w : Walk J n G (Yy y)) (hD : H1 D = none) (hn : n ≤ 1000000) (hG : ∀ H', Xg lo T H1 H' → G H') (r : Nat → V)
    (he : ∀ i x H', i < n → y i x → Xg lo T H1 H' → ∀ Q : VK, (∀ H4, Xg lo T H' H4 → Q (r i) H4) → te ((wipe σ [j]).set j (some x)) H' Q)
    (hd : ∀ H', Xg lo T H1 H' → H' D = some (.lst ((List.range n).map r)) → Qd H') :
    ∃ W : Nat → Nat → Hp → Prop, (∃ m, W 0 m (upd H1 D (.lst []))) ∧ ∀ i m H, W i m H →
      (J.stop i H ∧ Qd H) ∨ (J.go i H ∧ ∃ Nx : Hp → Prop, (∀ H', Nx H' → ∃ m', m' < m ∧ W (i + 1) m' H') ∧ ∀ x H', J.yld i H x H' → gName j x (wipe σ [j]) H' fun σ2 H2 => wipe σ2 [j] = wipe σ [j] ∧ tYes σ2 H2 fun b H3 =>
        if b = true then te σ2 H3 fun y H4 => ∃ acc, H4 D = some (.lst acc) ∧ acc.length < sizeLine ∧ Nx (upd H4 D (.lst (acc ++ [y]))) else Nx H3) :=
  lcFg w hD hn hG (fun _ => true) r (fun i x H' _ _ _ Q q => q H' Xg.refl) (fun i x H' hi hy _ => he i x H' hi hy) fun H' x' e => hd H' x' (by rw [e, kept_all])
theorem lcF (w : Walk J n G (Yy y)) (hD : H1 D = none) (hn : n ≤ 1000000) (hG : ∀ H', Xg True T H1 H' → G H') (f : Nat → Bool) (r : Nat → V)
    (ht : ∀ i x H', i < n → y i x → Xg True T H1 H' → ∀ Q : Bool → Hp → Prop, (∀ H4, Xg True T H' H4 → Q (f i) H4) → tt ((wipe σ [j]).set j (some x)) H' Q)
    (he : ∀ i x H', i < n → y i x → f i = true → Xg True T H1 H' → ∀ Q : VK, (∀ H4, Xg True T H' H4 → Q (r i) H4) → te ((wipe σ [j]).set j (some x)) H' Q)
    (hd : ∀ H', Xg True T H1 H' → H' D = some (.lst (kept n f r)) → Qd H') :
    ∃ W : Nat → Nat → Hp → Prop, (∃ m, W 0 m (upd H1 D (.lst []))) ∧ ∀ i m H, W i m H →
      (J.stop i H ∧ Qd H) ∨ (J.go i H ∧ ∃ Nx : Hp → Prop, (∀ H', Nx H' → ∃ m', m' < m ∧ W (i + 1) m' H') ∧ ∀ x H', J.yld i H x H' → gName j x (wipe σ [j]) H' fun σ2 H2 => wipe σ2 [j] = wipe σ [j] ∧ tt σ2 H2 fun b H3 =>
        if b = true then te σ2 H3 fun y H4 => ∃ acc, H4 D = some (.lst acc) ∧ acc.length < sizeLine ∧ Nx (upd H4 D (.lst (acc ++ [y]))) else Nx H3) := lcFg w hD hn hG f r ht he hd
theorem lcP (w : Walk J n G (Yy y)) (hD : H1 D = none) (hn : n ≤ 1000000) (hG : ∀ H', Xg True T H1 H' → G H') (r : Nat → V)
    (he : ∀ i x H', i < n → y i x → Xg True T H1 H' → ∀ Q : VK, (∀ H4, Xg True T H' H4 → Q (r i) H4) → te ((wipe σ [j]).set j (some x)) H' Q)
    (hd : ∀ H', Xg True T H1 H' → H' D = some (.lst ((List.range n).map r)) → Qd H') :
    ∃ W : Nat → Nat → Hp → Prop, (∃ m, W 0 m (upd H1 D (.lst []))) ∧ ∀ i m H, W i m H →
      (J.stop i H ∧ Qd H) ∨ (J.go i H ∧ ∃ Nx : Hp → Prop, (∀ H', Nx H' → ∃ m', m' < m ∧ W (i + 1) m' H') ∧ ∀ x H', J.yld i H x H' → gName j x (wipe σ [j]) H' fun σ2 H2 => wipe σ2 [j] = wipe σ [j] ∧ tYes σ2 H2 fun b H3 =>
        if b = true then te σ2 H3 fun y H4 => ∃ acc, H4 D = some (.lst acc) ∧ acc.length < sizeLine ∧ Nx (upd H4 D (.lst (acc ++ [y]))) else Nx H3) := lcPg w hD hn hG r he hd
theorem lcFs (w : Walk J n G (Yy y)) (hD : H1 D = none) (hn : n ≤ 1000000) (hG : ∀ H', Xg False T H1 H' → G H') (f : Nat → Bool) (r : Nat → V)
    (ht : ∀ i x H', i < n → y i x → Xg False T H1 H' → ∀ Q : Bool → Hp → Prop, (∀ H4, Xg False T H' H4 → Q (f i) H4) → tt ((wipe σ [j]).set j (some x)) H' Q)
    (he : ∀ i x H', i < n → y i x → f i = true → Xg False T H1 H' → ∀ Q : VK, (∀ H4, Xg False T H' H4 → Q (r i) H4) → te ((wipe σ [j]).set j (some x)) H' Q)
    (hd : ∀ H', Xg False T H1 H' → H' D = some (.lst (kept n f r)) → Qd H') :
    ∃ W : Nat → Nat → Hp → Prop, (∃ m, W 0 m (upd H1 D (.lst []))) ∧ ∀ i m H, W i m H →
      (J.stop i H ∧ Qd H) ∨ (J.go i H ∧ ∃ Nx : Hp → Prop, (∀ H', Nx H' → ∃ m', m' < m ∧ W (i + 1) m' H') ∧ ∀ x H', J.yld i H x H' → gName j x (wipe σ [j]) H' fun σ2 H2 => wipe σ2 [j] = wipe σ [j] ∧ tt σ2 H2 fun b H3 =>
        if b = true then te σ2 H3 fun y H4 => ∃ acc, H4 D = some (.lst acc) ∧ acc.length < sizeLine ∧ Nx (upd H4 D (.lst (acc ++ [y]))) else Nx H3) := lcFg w hD hn hG f r ht he hd
theorem lcPs (w : Walk J n G (Yy y)) (hD : H1 D = none) (hn : n ≤ 1000000) (hG : ∀ H', Xg False T H1 H' → G H') (r : Nat → V)
    (he : ∀ i x H', i < n → y i x → Xg False T H1 H' → ∀ Q : VK, (∀ H4, Xg False T H' H4 → Q (r i) H4) → te ((wipe σ [j]).set j (some x)) H' Q)
    (hd : ∀ H', Xg False T H1 H' → H' D = some (.lst ((List.range n).map r)) → Qd H') :
    ∃ W : Nat → Nat → Hp → Prop, (∃ m, W 0 m (upd H1 D (.lst []))) ∧ ∀ i m H, W i m H →
      (J.stop i H ∧ Qd H) ∨ (J.go i H ∧ ∃ Nx : Hp → Prop, (∀ H', Nx H' → ∃ m', m' < m ∧ W (i + 1) m' H') ∧ ∀ x H', J.yld i H x H' → gName j x (wipe σ [j]) H' fun σ2 H2 => wipe σ2 [j] = wipe σ [j] ∧ tYes σ2 H2 fun b H3 =>
        if b = true then te σ2 H3 fun y H4 => ∃ acc, H4 D = some (.lst acc) ∧ acc.length < sizeLine ∧ Nx (upd H4 D (.lst (acc ++ [y]))) else Nx H3) := lcPg w hD hn hG r he hd
end
section
variable {lo : Prop} {T : List (Addr × Str)} {J : It} {n : Nat} {G : Hp → Prop} {y : Nat → V → Prop} {te : TE} {j : Nat} {σ : L2.St} {H1 : Hp} {D : Addr} {Qd : Hp → Prop} {r : Nat → V}
/-- without a test, with what is known of the heap at each item -/
theorem lcI (R : Nat → Hp → Prop) (w : Walk J n G (Yy y)) (hD : H1 D = none) (hn : n ≤ 1000000) (hG : ∀ i H', Xg lo T H1 H' → R i H' → G H') (h0 : R 0 H1) (hR : ∀ i H xs, Xg lo T H1 H → R i H → R i (upd H D (.lst xs))) (r : Nat → V)
    (he : ∀ i x H', i < n → y i x → Xg lo T H1 H' → R i H' → ∀ Q : VK, (∀ H4, Xg lo T H' H4 → R (i + 1) H4 → Q (r i) H4) → te ((wipe σ [j]).set j (some x)) H' Q)
    (hd : ∀ H', Xg lo T H1 H' → R n H' → H' D = some (.lst ((List.range n).map r)) → Qd H') :
    ∃ W : Nat → Nat → Hp → Prop, (∃ m, W 0 m (upd H1 D (.lst []))) ∧ ∀ i m H, W i m H →
      (J.stop i H ∧ Qd H) ∨ (J.go i H ∧ ∃ Nx : Hp → Prop, (∀ H', Nx H' → ∃ m', m' < m ∧ W (i + 1) m' H') ∧ ∀ x H', J.yld i H x H' → gName j x (wipe σ [j]) H' fun σ2 H2 => wipe σ2 [j] = wipe σ [j] ∧ tYes σ2 H2 fun b H3 =>
        if b = true then te σ2 H3 fun y H4 => ∃ acc, H4 D = some (.lst acc) ∧ acc.length < sizeLine ∧ Nx (upd H4 D (.lst (acc ++ [y]))) else Nx H3) := by
  refine lc_it w (fun i H => Xg lo T H1 H ∧ R i H ∧ H D = some (.lst ((List.range i).map r))) ⟨Xg.new hD, hR 0 H1 [] .refl h0, by rw [upd_same]; rfl⟩ (fun i H _ p => hG i H p.1 p.2.1) (fun i x H H' hi p hy => ?_) fun H p => hd H p.1 p.2.1 p.2.2
  obtain ⟨eH, hy⟩ := hy
  subst eH
  refine ⟨wipe1 σ j _, ?_⟩
  unfold tYes
  refine iteT ?_
  refine he i x _ hi hy p.1 p.2.1 _ fun H5 x5 r5 => ?_
  have e5 := x5.lst p.2.2
  refine ⟨_, e5, ?_, (p.1.trans x5).mut (.of hD) e5, hR (i + 1) H5 _ (p.1.trans x5) r5, ?_⟩
  · rw [List.length_map, List.length_range]
    exact Nat.lt_of_lt_of_le hi (Nat.le_trans hn (by decide))
  · rw [upd_same, List.range_succ, List.map_append]
    rfl
end
section
variable {K : PySem.W.Frag} {a : Addr} {xs : List V}
theorem w_list : Walk (Itl K a) xs.length (fun H => SqL K H a xs) (Yy fun i x => xs[i]? = some x) := walk_list
theorem w_range {lo : Int} {n : Nat} : Walk (Itr lo n) n (fun _ => True) (Yy fun i x => x = .int (lo + i)) := walk_range
theorem w_rangeC {lo c : Int} {n : Nat} : Walk (Itc lo c n) n (fun _ => True) (Yy fun i x => x = .int (lo + (i : Nat) * c)) := walk_rangeC
end
theorem small_up {a b c : Int} (ha : 0 ≤ a ∧ a ≤ 1000000) (hb : 0 ≤ b ∧ b ≤ 1000000) (hc : 1 ≤ c ∧ c ≤ 1000000) : Builtin.Range.small a b c = true := by
  unfold Builtin.Range.small Builtin.Range.rangeSize
  have h1 : (b - a - 1) / c ≤ b - a - 1 ∨ b - a - 1 < 0 := by
    by_cases h : b - a - 1 < 0
    · exact .inr h
    · exact .inl (Int.ediv_le_self _ (by omega))
  have h2 : 0 ≤ (b - a - 1) / c ∨ b - a - 1 < 0 := by
    by_cases h : b - a - 1 < 0
    · exact .inr h
    · exact .inl (Int.ediv_nonneg (by omega) (by omega))
  simp only [Builtin.Range.rangeFitsLong, Bool.and_eq_true, Bool.or_eq_true, decide_eq_true_eq, beq_iff_eq, show c > 0 by omega, if_true]
  split <;> omega
/-! ### texts by their codes -/
def S (l : List Nat) : Str := ⟨l.toArray⟩
theorem S_app (a b : List Nat) : S a ++ S b = S (a ++ b) := by
  show (⟨a.toArray ++ b.toArray⟩ : Str) = ⟨(a ++ b).toArray⟩
  rw [List.append_toArray]
theorem S_len (l : List Nat) : (S l).length = l.length := by
  show l.toArray.size = l.length
  exact List.size_toArray
theorem S_inj {a b : List Nat} (h : S a = S b) : a = b := by
  have e : (S a).cps = (S b).cps := congrArg Str.cps h
  have e2 : a.toArray = b.toArray := e
  exact congrArg Array.toList e2
theorem S_of (z : Str) : z = S z.cps.toList := by
  cases z
  rfl
theorem w_str {l : List Nat} : Walk (Its (S l)) l.length (fun _ => True) (Yy fun i x => ∃ c, l[i]? = some c ∧ x = .str (S [c])) := by
  have h := walk_str (z := S l)
  have e : (S l).cps.size = l.length := S_len l
  rw [e] at h
  refine h.mono (fun _ _ => trivial) fun i H x H' _ _ y => ⟨y.1, ?_⟩
  obtain ⟨c, h1, h2⟩ := y.2
  exact ⟨c, by simpa [S] using h1, h2⟩
/-- bits as a text -/
def bc (b : Bool) : Nat := if b then 49 else 48
def sb (l : List Bool) : Str := S (l.map bc)
theorem sb_app (a b : List Bool) : sb a ++ sb b = sb (a ++ b) := by
  unfold sb
  rw [S_app, List.map_append]
theorem sb_len (l : List Bool) : (sb l).length = l.length := by
  unfold sb
  rw [S_len, List.length_map]
theorem bc_inj {a b : Bool} (h : bc a = bc b) : a = b := by
  cases a <;> cases b <;> first | rfl | cases h
theorem sb_inj {a b : List Bool} (h : sb a = sb b) : a = b := by
  have e := S_inj h
  exact (List.map_inj_right (f := bc) fun x y => bc_inj).mp e
theorem sb_nil : (Str.ofString "" : Str) = sb [] := by decide +kernel
theorem sb_0 : (Str.ofString "0" : Str) = sb [false] := by decide +kernel
theorem sb_1 : (Str.ofString "1" : Str) = sb [true] := by decide +kernel
/-! ### slices -/
theorem cut_S (l : List Nat) (i j : Nat) : cutS (S l) (some (i : Int)) (some (j : Int)) = S ((l.take j).drop i) := by
  unfold cutS
  rw [HT.sIx_nat, HT.sIx_nat, S_len]
  show (⟨_⟩ : Str) = ⟨_⟩
  congr 2
  show ((l.drop (min i l.length)).take (min j l.length - min i l.length)) = _
  rw [List.drop_take]
  by_cases hi : i ≤ l.length
  · rw [Nat.min_eq_left hi]
    by_cases hj : j ≤ l.length
    · rw [Nat.min_eq_left hj]
    · rw [Nat.min_eq_right (by omega), List.take_of_length_le (by rw [List.length_drop]; omega), List.take_of_length_le (by rw [List.length_drop]; omega)]
  · rw [List.drop_eq_nil_of_le (by omega : l.length ≤ min i l.length), List.drop_eq_nil_of_le (by omega : l.length ≤ i)]
    simp
theorem cut_sb (l : List Bool) (i j : Nat) : cutS (sb l) (some (i : Int)) (some (j : Int)) = sb ((l.take j).drop i) := by
  unfold sb
  rw [cut_S, List.map_drop, List.map_take]
end Tw

set_option maxHeartbeats 4000000
namespace Tw
open PySem PySem.Spec PyProof.Rows L2 LamX
/-! ### how many bits a number needs -/
def nd (n : Nat) : Nat := if h : n = 0 then 0 else nd (n / 2) + 1
theorem nd_zero : nd 0 = 0 := by rw [nd]; rfl
theorem nd_pos {n : Nat} (h : 0 < n) : nd n = nd (n / 2) + 1 := by
  rw [nd, dif_neg (Nat.ne_of_gt h)]
theorem nd_le : ∀ (w n : Nat), nd n ≤ w ↔ n < 2 ^ w
  | 0, n => by
    rcases Nat.eq_zero_or_pos n with h | h
    · subst h; rw [nd_zero]; decide
    · rw [nd_pos h]; simp; omega
  | w + 1, n => by
    rcases Nat.eq_zero_or_pos n with h | h
    · subst h; rw [nd_zero]; simp [Nat.pow_pos]
    · rw [nd_pos h, Nat.pow_succ]
      have := nd_le w (n / 2)
      omega
theorem nd_lo2 {n : Nat} (h : 0 < n) : 0 < nd n := by rw [nd_pos h]; omega
theorem nd_le_self (n : Nat) : nd n ≤ n := (nd_le n n).mpr Nat.lt_two_pow_self
/-! ### a number in so many bits -/
def bn (n : Nat) : Nat → List Bool
  | 0 => []
  | w + 1 => bn (n / 2) w ++ [n % 2 == 1]
theorem bn_len : ∀ (w n : Nat), (bn n w).length = w
  | 0, _ => rfl
  | w + 1, n => by rw [bn, List.length_append, bn_len w]; rfl
theorem bn_front : ∀ (w n : Nat), bn n (w + 1) = (n / 2 ^ w % 2 == 1) :: bn n w
  | 0, n => by simp [bn]
  | w + 1, n => by
    rw [bn, bn_front w (n / 2), bn, List.cons_append, Nat.div_div_eq_div_mul, Nat.pow_succ, Nat.mul_comm]
/-- the number that bits tell -/
def vb (l : List Bool) : Nat := l.foldl (fun a b => 2 * a + b.toNat) 0
theorem vb_snoc (l : List Bool) (b : Bool) : vb (l ++ [b]) = 2 * vb l + b.toNat := by
  unfold vb
  rw [List.foldl_append]
  rfl
theorem vb_bn : ∀ (w n : Nat), vb (bn n w) = n % 2 ^ w
  | 0, n => by simp [bn, vb, Nat.mod_one]
  | w + 1, n => by
    rw [bn, vb_snoc, vb_bn w (n / 2)]
    have e : (n % 2 == 1).toNat = n % 2 := by
      rcases Nat.mod_two_eq_zero_or_one n with h | h <;> rw [h] <;> rfl
    rw [e, Nat.pow_succ, Nat.mul_comm (2 ^ w) 2, Nat.mod_mul]
    omega
theorem bn_vb_lt {w n : Nat} (h : n < 2 ^ w) : vb (bn n w) = n := by rw [vb_bn, Nat.mod_eq_of_lt h]
theorem vb_from : ∀ (l : List Bool) (a : Nat), l.foldl (fun a b => 2 * a + b.toNat) a < (a + 1) * 2 ^ l.length
  | [], a => by simp
  | b :: r, a => by
    have h := vb_from r (2 * a + b.toNat)
    have hb : b.toNat ≤ 1 := by cases b <;> decide
    refine Nat.lt_of_lt_of_le h ?_
    rw [List.length_cons, Nat.pow_succ, Nat.mul_comm (2 ^ r.length) 2, ← Nat.mul_assoc]
    exact Nat.mul_le_mul_right _ (by omega)
theorem vb_lt (l : List Bool) : vb l < 2 ^ l.length := by
  have h := vb_from l 0
  rw [Nat.zero_add, Nat.one_mul] at h
  exact h
/-! ### the text of a bit, a sign's number -/
theorem str_bit (n : Nat) : (Str.ofString (toString ((n : Int) % 2)) : Str) = sb [n % 2 == 1] := by
  rcases Nat.mod_two_eq_zero_or_one n with h | h
  · have e : (n : Int) % 2 = 0 := by omega
    rw [e, h]
    decide +kernel
  · have e : (n : Int) % 2 = 1 := by omega
    rw [e, h]
    decide +kernel
theorem int_bit (b : Bool) : PySem.intText? (S [bc b]) = some (b.toNat : Int) := by
  cases b <;> decide +kernel
theorem toNat_lt (b : Bool) : (b.toNat : Int) ≤ 1 := by cases b <;> decide
/-! ### bits and other texts -/
def IsB (z : Str) : Prop := ∃ l, z = sb l
theorem isB_iff (l : List Nat) : IsB (S l) ↔ ∀ c ∈ l, c = 48 ∨ c = 49 := by
  constructor
  · rintro ⟨m, e⟩ c hc
    rw [S_inj e] at hc
    obtain ⟨b, _, rfl⟩ := List.mem_map.mp hc
    cases b
    · exact .inl rfl
    · exact .inr rfl
  · intro h
    refine ⟨l.map fun c => c == 49, ?_⟩
    unfold sb
    congr 1
    rw [List.map_map]
    conv => lhs; rw [← List.map_id l]
    refine List.map_congr_left fun c hc => ?_
    rcases h c hc with rfl | rfl <;> rfl
theorem signs01 : (Str.ofString "01" : Str).cps.toList = [48, 49] := by decide +kernel
theorem all_bits (l : List Nat) : ((List.range l.length).map fun i => decide (l.getD i 0 ∈ [48, 49])).all id = decide (∀ c ∈ l, c = 48 ∨ c = 49) := by
  rw [Bool.eq_iff_iff]
  simp only [List.all_eq_true, List.mem_map, List.mem_range, decide_eq_true_eq, id]
  constructor
  · intro h c hc
    obtain ⟨i, hi, rfl⟩ := List.mem_iff_getElem.mp hc
    have := h _ ⟨i, hi, rfl⟩
    rw [decide_eq_true_eq, List.getD_eq_getElem?_getD, List.getElem?_eq_getElem hi] at this
    simpa using this
  · rintro h b ⟨i, hi, rfl⟩
    rw [decide_eq_true_eq, List.getD_eq_getElem?_getD, List.getElem?_eq_getElem hi]
    simpa using h _ (List.getElem_mem hi)
/-! ### joined -/
theorem join_S : ∀ ls : List (List Nat), Txt.join (S []) (ls.map S) = S ls.flatten := by
  intro ls
  rw [show Txt.join (S []) (ls.map S) = Str.join (S []) (ls.map S) from StrLaws.glued_eq_join _ _]
  induction ls with
  | nil => rfl
  | cons a r ih =>
    cases r with
    | nil => show S a = _; rw [List.flatten_cons, List.flatten_nil, List.append_nil]
    | cons b r =>
      show S a ++ S [] ++ Str.join (S []) ((b :: r).map S) = _
      rw [ih, S_app, S_app, List.append_nil]
      rfl
theorem join_sb (ls : List (List Bool)) : Txt.join (sb []) (ls.map sb) = sb ls.flatten := by
  have e := join_S (ls.map (List.map bc))
  rw [List.map_map] at e
  rw [show (ls.map sb) = ls.map (S ∘ List.map bc) from rfl, show sb [] = S [] from rfl, e]
  unfold sb
  rw [List.map_flatten]
theorem sum_len (ls : List (List Bool)) : (ls.map sb).map Str.length = ls.map List.length := by
  rw [List.map_map]
  exact List.map_congr_left fun l _ => sb_len l
/-! ### packed -/
def pk (ns : List Nat) (w : Nat) : List Bool := (ns.map fun n => bn n w).flatten
theorem pk_len (ns : List Nat) (w : Nat) : (pk ns w).length = ns.length * w := by
  unfold pk
  induction ns with
  | nil => simp
  | cons n r ih => rw [List.map_cons, List.flatten_cons, List.length_append, ih, bn_len, List.length_cons, Nat.succ_mul]; omega
/-- the part of w bits at i -/
def part (l : List Bool) (w i : Nat) : List Bool := (l.take (i * w + w)).drop (i * w)
theorem part_pk : ∀ (ns : List Nat) (w i : Nat) (n : Nat), ns[i]? = some n → part (pk ns w) w i = bn n w
  | [], _, _, _, h => by simp at h
  | m :: r, w, 0, n, h => by
    have e : m = n := by simpa using h
    subst e
    unfold part pk
    rw [List.map_cons, List.flatten_cons, Nat.zero_mul, Nat.zero_add, List.drop_zero, List.take_append_of_le_length (by rw [bn_len]; exact Nat.le_refl _), List.take_of_length_le (by rw [bn_len]; exact Nat.le_refl _)]
  | m :: r, w, i + 1, n, h => by
    have ih := part_pk r w i n (by simpa using h)
    rw [← ih]
    unfold part pk
    rw [List.map_cons, List.flatten_cons]
    have e1 : (i + 1) * w + w = (bn m w).length + (i * w + w) := by rw [bn_len, Nat.succ_mul]; omega
    have e2 : (i + 1) * w = (bn m w).length + i * w := by rw [bn_len, Nat.succ_mul]; omega
    rw [e1, List.take_length_add_append, e2, List.drop_length_add_append]
end Tw

set_option maxHeartbeats 4000000
namespace Tw
open PySem PySem.Spec PyProof.Rows L2 LamX
section
variable {P : Program} {w : World} {K : PySem.W.Frag} {mg : Str → Option Value} {base : Heap} {x qual : Str} {params : Arguments} {body : List Stmt} {scope : Scope} {fd : FuncData} {at_ : He.Defn}
/-- the rule for a def that makes lambdas: its code object is known -/
theorem okC {CX : CXT} {N ps : List Str} {k : Nat} {sp : Sp} (F : FunD K x qual params body scope [] [] (He.fAd K at_) fd) (S : FnScope N ps scope) (len : ∀ vs H Q E, sp vs H Q E → vs.length = ps.length)
    (hbody : ∀ (A : Around) (outer : List Env) (s : Shared) (H : Hp) (vs : List V) (Q : VK) (E : XK), Room k (A.deeper (envOfC qual scope s.heap.objs.size (He.fAd K at_) (.ref (He.cT K at_).1))) → sp vs H Q E →
      ∃ t, PSs (cxOf CX P w K mg base N qual scope (He.fAd K at_) (.ref (He.cT K at_).1) A outer s H E) body t ∧ t { nx := fun _ H' => Q .non H', rt := Q } (L2.start N vs) H) : FnOk P w K mg base CX (k + 1) (He.fAd K at_) fd ps sp := by
  obtain ⟨oc, od, dV, kV, doc, pm, an, cdv, ct, osl, rfl, lk, hcd, _, _⟩ := F.ex
  obtain ⟨c, e⟩ := He.codeIn_ref hcd
  have e2 : cdv = .ref (He.cT K at_).1 := by
    rw [e]
    exact congrArg Value.ref (He.codeOf_eq lk e).symm
  subst e2
  exact fn_of lk hcd S len fun A outer s H vs Q E hr hsp => hbody A outer s H vs Q E hr hsp
end
/-- the empty tables of the start -/
theorem tabs_start {K : PySem.W.Frag} {H : Hp} {tf : List He.Defn} {q : He.Defn → Str} (h : ∀ p ∈ tf.map (He.cT K), H p.2 = some (.tbl #[])) : Tabs (tf.map fun d => ((He.cT K d).2, q d)) H := fun p hp => by
  obtain ⟨d, hd, rfl⟩ := List.mem_map.mp hp
  exact TabS.nil (h _ (List.mem_map_of_mem hd))
end Tw

set_option maxHeartbeats 4000000
namespace Tw
open PySem PySem.Spec PyProof.Rows L2 LamX
/-! ### data compared -/
def Sh (n : Nat) (d : PyData) : Prop := d.canLay0 = true ∧ d.depth ≤ n
section
variable {n m : Nat} {d e : PyData} {ds : List PyData}
theorem Sh.shaped (h : Sh n d) (hn : n ≤ 64) : SeqAt.shaped d = true := by
  unfold SeqAt.shaped
  rw [h.1, Bool.true_and]
  exact decide_eq_true (Nat.le_trans h.2 hn)
theorem Sh.mono (h : Sh n d) (hn : n ≤ m) : Sh m d := ⟨h.1, Nat.le_trans h.2 hn⟩
theorem sh_int {i : Int} : Sh n (.int i) := ⟨rfl, Nat.zero_le _⟩
theorem sh_bl {b : Bool} : Sh n (.bool b) := ⟨rfl, Nat.zero_le _⟩
theorem sh_non : Sh n .none := ⟨rfl, Nat.zero_le _⟩
theorem sh_str {x : Str} (h : PyData.strOk x = true) : Sh n (.str x) := ⟨h, Nat.zero_le _⟩
theorem sh_all : ∀ {ds : List PyData}, (∀ d ∈ ds, Sh n d) → PyData.canLayAll0 ds = true ∧ PyData.depthAll ds ≤ n
  | [], _ => ⟨rfl, Nat.zero_le _⟩
  | d :: ds, h => by
    obtain ⟨h1, h2⟩ := sh_all (ds := ds) fun x hx => h x (List.mem_cons_of_mem _ hx)
    obtain ⟨h3, h4⟩ := h d (List.mem_cons_self ..)
    refine ⟨?_, ?_⟩
    · show (d.canLay0 && PyData.canLayAll0 ds) = true
      rw [h1, h3]
      rfl
    · show max d.depth (PyData.depthAll ds) ≤ n
      omega
theorem sh_lst (h : ∀ d ∈ ds, Sh n d) : Sh (n + 1) (.list ds) := ⟨(sh_all h).1, Nat.succ_le_succ (sh_all h).2⟩
theorem sh_tup (h : ∀ d ∈ ds, Sh n d) : Sh (n + 1) (.tuple ds) := ⟨(sh_all h).1, Nat.succ_le_succ (sh_all h).2⟩
theorem sh_map {α : Type} {g : α → PyData} {l : List α} (h : ∀ x ∈ l, Sh n (g x)) : ∀ d ∈ l.map g, Sh n d := fun d hd => by
  obtain ⟨x, hx, rfl⟩ := List.mem_map.mp hd
  exact h x hx
theorem strOk_S {l : List Nat} (h : ∀ c ∈ l, c < 1114112) : PyData.strOk (S l) = true := by
  unfold PyData.strOk S
  rw [Array.all_eq_true_iff_forall_mem]
  intro c hc
  exact decide_eq_true (h c (by simpa using hc))
theorem strOk_sb (l : List Bool) : PyData.strOk (sb l) = true := strOk_S fun c hc => by
  obtain ⟨b, _, rfl⟩ := List.mem_map.mp hc
  cases b <;> decide
end
section
variable {lo : Prop} {K : PySem.W.Frag} {T : List (Addr × Str)} {H H' : Hp} {Q : VK} {x y : V} {d e : PyData} {n : Nat} {a : Addr}
theorem neD_same (hx : Dp K H x d) (hy : Dp K H y d) (s : Sh 64 d) (q : Q (.bl false) H) : rNeD K x y H Q := by
  refine ⟨d, d, hx, hy, s.shaped (Nat.le_refl _), s.shaped (Nat.le_refl _), ?_⟩
  rw [PySem.SeqAt.eqv_refl d s.1]
  exact q
theorem neC_same {σ : L2.St} (hx : Dp K H x d) (hy : Dp K H y d) (s : Sh 64 d) (q : Q (.bl false) H) : tC y σ H fun y H2 => rNeD K x y H2 Q := neD_same hx hy s q
theorem eqD_same (hx : Dp K H x d) (hy : Dp K H y d) (s : Sh 64 d) (q : Q (.bl true) H) : rEqD K x y H Q := by
  refine ⟨d, d, hx, hy, s.shaped (Nat.le_refl _), s.shaped (Nat.le_refl _), ?_⟩
  rw [PySem.SeqAt.eqv_refl d s.1]
  exact q
theorem neD_diff (hx : Dp K H x d) (hy : Dp K H y e) (sx : Sh 64 d) (sy : Sh 64 e) (h : PyData.eqv d e = false) (q : Q (.bl true) H) : rNeD K x y H Q := by
  refine ⟨d, e, hx, hy, sx.shaped (Nat.le_refl _), sy.shaped (Nat.le_refl _), ?_⟩
  rw [h]
  exact q
theorem eqD_of (hx : Dp K H x d) (hy : Dp K H y e) (sx : Sh 64 d) (sy : Sh 64 e) (q : Q (.bl (PyData.eqv d e)) H) : rEqD K x y H Q := ⟨d, e, hx, hy, sx.shaped (Nat.le_refl _), sy.shaped (Nat.le_refl _), q⟩
theorem neD_of (hx : Dp K H x d) (hy : Dp K H y e) (sx : Sh 64 d) (sy : Sh 64 e) (q : Q (.bl (!PyData.eqv d e)) H) : rNeD K x y H Q := ⟨d, e, hx, hy, sx.shaped (Nat.le_refl _), sy.shaped (Nat.le_refl _), q⟩
theorem dpAll_map {α : Type} {f : α → V} {g : α → PyData} : ∀ {l : List α}, (∀ x ∈ l, Dp K H (f x) (g x)) → DpAll K H (l.map f) (l.map g)
  | [], _ => .nil
  | x :: l, h => .cons (h x (List.mem_cons_self ..)) (dpAll_map fun y hy => h y (List.mem_cons_of_mem _ hy))
theorem dp_lst {α : Type} {f : α → V} {g : α → PyData} {l : List α} (s : SqL K H a (l.map f)) (h : ∀ x ∈ l, Dp K H (f x) (g x)) : Dp K H (.ref a) (.list (l.map g)) := .lst s (dpAll_map h)
theorem dp_ints {l : List Int} (s : SqL K H a (l.map .int)) : Dp K H (.ref a) (.list (l.map .int)) := dp_lst s fun x _ => .int x
theorem dp_strs {l : List Str} (s : SqL K H a (l.map .str)) : Dp K H (.ref a) (.list (l.map .str)) := dp_lst s fun x _ => .str x
theorem sh_ints {l : List Int} : Sh (n + 1) (.list (l.map .int)) := sh_lst (sh_map fun _ _ => sh_int)
theorem sh_strs {l : List Str} (h : ∀ x ∈ l, PyData.strOk x = true) : Sh (n + 1) (.list (l.map .str)) := sh_lst (sh_map fun x hx => sh_str (h x hx))
mutual
theorem Xg.dp (X : Xg lo T H H') : ∀ (d : PyData) (v : V), Dp K H v d → Dp K H' v d
  | .none, _, h => by cases h; exact .non
  | .bool b, _, h => by cases h; exact .bl b
  | .int i, _, h => by cases h; exact .int i
  | .str x, _, h => by cases h; exact .str x
  | .list ds, _, h => by
    cases h with
    | lst s h => exact .lst (X.seq s) (Xg.dpAll X ds _ h)
  | .tuple ds, _, h => by
    cases h with
    | tup s h => exact .tup (X.seqT s) (Xg.dpAll X ds _ h)
  | .dict _, _, h => by cases h
theorem Xg.dpAll (X : Xg lo T H H') : ∀ (ds : List PyData) (vs : List V), DpAll K H vs ds → DpAll K H' vs ds
  | [], _, h => by cases h; exact .nil
  | d :: ds, _, h => by
    cases h with
    | cons h1 h2 => exact .cons (Xg.dp X d _ h1) (Xg.dpAll X ds _ h2)
end
/-- lists of numbers, told alike -/
theorem eqvAll_ints : ∀ (l m : List Int), PyData.eqvAll (l.map .int) (m.map .int) = decide (l = m)
  | [], [] => rfl
  | [], _ :: _ => rfl
  | _ :: _, [] => rfl
  | x :: l, y :: m => by
    show ((x == y) && PyData.eqvAll (l.map .int) (m.map .int)) = _
    rw [eqvAll_ints l m, Bool.eq_iff_iff]
    simp
theorem eqv_ints (l m : List Int) : PyData.eqv (.list (l.map .int)) (.list (m.map .int)) = decide (l = m) := eqvAll_ints l m
end
end Tw

set_option maxHeartbeats 4000000
namespace Tw
open PySem PySem.Spec PyProof.Rows L2 LamX
/-! ### rules, the written part by its own name -/
section
variable {X : Cx} {K : PySem.W.Frag} (eK : X.K = K)
def rLenQ (K : PySem.W.Frag) : List V → Hp → VK → Prop := fun xs H Q => ∃ p ys, xs = [.ref p] ∧ (SqL K H p ys ∨ SqT K H p ys) ∧ Q (.int ys.length) H
def rListQ (K : PySem.W.Frag) : List V → Hp → VK → Prop := fun xs H Q => ∃ p ys, xs = [.ref p] ∧ (SqL K H p ys ∨ SqT K H p ys) ∧ ∀ l, H l = none → Q (.ref l) (upd H l (.lst ys))
include eK
theorem call_len_seqK : CallR X (.builtin "len") (rLenQ K) := by subst eK; exact call_len_seq
theorem call_list_ofK : CallR X (.type "list") (rListQ K) := by subst eK; exact call_list_of
theorem ix_listK : IxR X (rIxL K) := by subst eK; exact ix_list
theorem ix_tupK : IxR X (rIxT K) := by subst eK; exact ix_tup
theorem sl_listK : SlR X (rSlL K) := by subst eK; exact sl_list
theorem op_eqDK (hu : X.A.units + 64 < cLine) : OpR X (compareOp .Eq) (rEqD K) := by subst eK; exact op_eqD hu
theorem op_neDK (hu : X.A.units + 64 < cLine) : OpR X (compareOp .NotEq) (rNeD K) := by subst eK; exact op_neD hu
theorem cr_maxK (hc : X.calm = true) : CallR X (.builtin "max") (rMax K) := by subst eK; exact cr_max hc
theorem cr_minK (hc : X.calm = true) : CallR X (.builtin "min") (rMin K) := by subst eK; exact cr_min hc
theorem cr_allK (hc : X.calm = true) : CallR X (.builtin "all") (rAll K) := by subst eK; exact cr_all hc
theorem cr_sumK (hc : X.calm = true) : CallR X (.builtin "sum") (rSum K) := by subst eK; exact cr_sum hc
theorem mt_indexK : MtR X "list.index" (rIndex K) := by subst eK; exact mt_index
theorem op_in_seqK : OpR X (compareOp .In) (rIn K false) := by subst eK; exact op_in_seq
theorem op_notIn_seqK : OpR X (compareOp .NotIn) (rIn K true) := by subst eK; exact op_notIn_seq
theorem call_isiK : CallR X (.builtin "isinstance") (rIsi K) := by subst eK; exact call_isi
theorem cr_sortedIK : CallR X (.builtin "sorted") (rSortedI K) := by subst eK; exact cr_sortedI
end
section
variable {X : Cx} {K : PySem.W.Frag} {tg : Expr}
theorem pi_listK (eK : X.K = K) {l : Expr} {tl : TE} (hl : PE X l tl) : PI X tg l (iList K tl) := by subst eK; exact pi_list hl
theorem pi_tupK (eK : X.K = K) {l : Expr} {tl : TE} (hl : PE X l tl) : PI X tg l (iTup K tl) := by subst eK; exact pi_tup hl
def rJoin (K : PySem.W.Frag) : V → List V → Hp → VK → Prop := fun x xs H Q => ∃ a p, ∃ ys : List Str, x = .str a ∧ xs = [.ref p] ∧ (SqL K H p (ys.map V.str) ∨ SqT K H p (ys.map V.str)) ∧ (ys.map (·.length)).sum + ys.length * a.length ≤ 16777216 ∧ Q (.str (Txt.join a ys)) H
theorem pe_joinK (eK : X.K = K) {o e : Expr} {to te : TE} {apos pos : Pos} (ho : PE X o to) (he : PE X e te) (hs : starEach [e] X.env = [(false, eval e X.env)]) (hbase : attributeBase o "join" X.env (eval o X.env) = eval o X.env) (hline : (apos.endLine == pos.line) = true) :
    PE X (.Call (.Attribute o "join" apos) [e] [] pos) (tM1 (rJoin K) to te) := by subst eK; exact pe_join ho he hs hbase hline
theorem pi_enumK (eK : X.K = K) {e : Expr} {ta : TA} {p pos tpos : Pos} {elts : List Expr} {kk : Nat} (hg : Gl X "enumerate") (hm : X.mg "enumerate" = none) (ha : PA X [e] ta) (hs : starEach [e] X.env = [(false, eval e X.env)]) :
    PI X (.Tuple elts kk tpos) (.Call (.Name "enumerate" p) [e] [] pos) (iEnum K ta) := by subst eK; exact pi_enum hg hm ha hs
theorem pi_zipK (eK : X.K = K) {e e2 : Expr} {ta : TA} {p pos tpos : Pos} {elts : List Expr} {kk : Nat} (hg : Gl X "zip") (hm : X.mg "zip" = none) (ha : PA X [e, e2] ta)
    (hs : starEach [e, e2] X.env = (false, eval e X.env) :: starEach [e2] X.env) (hpl : (backTo pos (starEach [e2] X.env)).any (·.1) = false) :
    PI X (.Tuple elts kk tpos) (.Call (.Name "zip" p) [e, e2] [] pos) (iZip K ta) := by subst eK; exact pi_zip hg hm ha hs hpl
theorem pi_reversedK (eK : X.K = K) {e : Expr} {ta : TA} {p pos : Pos} (hg : Gl X "reversed") (hm : X.mg "reversed" = none) (ha : PA X [e] ta) (hs : starEach [e] X.env = [(false, eval e X.env)]) : PI X tg (.Call (.Name "reversed" p) [e] [] pos) (iRev K ta) := by subst eK; exact pi_reversed hg hm ha hs
theorem pg_tupK (eK : X.K = K) {es : List Expr} {k : Nat} {t : TGs} {n : Nat} {pos : Pos} (hc : X.calm = true) (h : PGs X es t)
    (hn : (assignEach es X.env).length = n) (hst : (assignEach es X.env).findIdx? (·.1) = none) : PG X (.Tuple es k pos) (gTup K n t) := by subst eK; exact pg_tup hc h hn hst
theorem pg_lstK (eK : X.K = K) {es : List Expr} {k : Nat} {t : TGs} {n : Nat} {pos : Pos} (hc : X.calm = true) (h : PGs X es t)
    (hn : (assignEach es X.env).length = n) (hst : (assignEach es X.env).findIdx? (·.1) = none) : PG X (.Tuple es k pos) (gLst K n t) := by subst eK; exact pg_lst hc h hn hst
theorem pe_fldK (eK : X.K = K) {e : Expr} {ta : TE} {f : Str} {pos : Pos} (he : PE X e ta) (hb : attributeBase e f X.env (eval e X.env) = eval e X.env) : PE X (.Attribute e f pos) (tFld K ta f) := by subst eK; exact pe_fld he hb
theorem pe_bm0K (eK : X.K = K) {o : Expr} {to : TE} {name : Str} {apos cpos : Pos} {T id : String} {r : V → List V → Hp → VK → Prop} (pa : PlainAttrs T) (slot : Slot T name id) (hty : typeOf (.builtin id) = pure (.type "method_descriptor")) (hm : MtR X id r) (ho : PE X o to)
    (hbase : attributeBase o name X.env (eval o X.env) = eval o X.env) (hline : (apos.endLine == cpos.line) = true) : PE X (.Call (.Attribute o name apos) [] [] cpos) (tBM0 K T r to) := by subst eK; exact pe_bm0 pa slot hty hm ho hbase hline
theorem pe_bmK (eK : X.K = K) {o e : Expr} {es : List Expr} {to : TE} {t : TA} {name : Str} {apos cpos : Pos} {T id : String} {r : V → List V → Hp → VK → Prop} (pa : PlainAttrs T) (slot : Slot T name id) (hty : typeOf (.builtin id) = pure (.type "method_descriptor")) (hm : MtR X id r) (ho : PE X o to) (ha : PA X (e :: es) t)
    (hbase : attributeBase o name X.env (eval o X.env) = eval o X.env)
    (hfew : ((backTo cpos (starEach (e :: es) X.env)).all (fun x => !x.1) && (backToKw cpos (keywordEach [] X.env)).all (fun x => x.1.isSome)
      && decide ((e :: es).length + ([] : List Keyword).length + (if ([] : List Keyword).isEmpty then 0 else 1) < 30)) = true)
    (hline : (apos.endLine == cpos.line) = true) (hs : starEach (e :: es) X.env = (false, eval e X.env) :: starEach es X.env) (hplain : (backTo cpos (starEach es X.env)).any (·.1) = false) :
    PE X (.Call (.Attribute o name apos) (e :: es) [] cpos) (tBM K T r to t) := by subst eK; exact pe_bm pa slot hty hm ho ha hbase hfew hline hs hplain
end
/-- two ways to one rest -/
theorem via {P R : Hp → Prop} {G : Prop} (main : (∀ H', P H' → R H') → G) (rest : ∀ H', P H' → R H') : G := main rest
/-! ### slices of lists -/
theorem cut_take (l : List V) (j : Nat) : cutV l none (some (j : Int)) = l.take j := by
  unfold cutV
  rw [HT.sIx_nat]
  show (l.drop 0).take (min j l.length - 0) = _
  rw [List.drop_zero, Nat.sub_zero]
  by_cases hj : j ≤ l.length
  · rw [Nat.min_eq_left hj]
  · rw [Nat.min_eq_right (by omega), List.take_of_length_le (Nat.le_refl _), List.take_of_length_le (by omega)]
theorem cut_nat (l : List V) (i j : Nat) : cutV l (some (i : Int)) (some (j : Int)) = (l.take j).drop i := by
  unfold cutV
  rw [HT.sIx_nat, HT.sIx_nat, List.drop_take]
  by_cases hi : i ≤ l.length
  · rw [Nat.min_eq_left hi]
    by_cases hj : j ≤ l.length
    · rw [Nat.min_eq_left hj]
    · rw [Nat.min_eq_right (by omega), List.take_of_length_le (by rw [List.length_drop]; omega), List.take_of_length_le (by rw [List.length_drop]; omega)]
  · rw [List.drop_eq_nil_of_le (by omega : l.length ≤ min i l.length), List.drop_eq_nil_of_le (by omega : l.length ≤ i)]
    simp
theorem cut_drop (l : List V) (i : Nat) : cutV l (some (i : Int)) none = l.drop i := by
  unfold cutV
  rw [HT.sIx_nat]
  show (l.drop (min i l.length)).take (l.length - min i l.length) = _
  by_cases hi : i ≤ l.length
  · rw [Nat.min_eq_left hi, List.take_of_length_le (by rw [List.length_drop]; omega)]
  · rw [List.drop_eq_nil_of_le (by omega : l.length ≤ min i l.length), List.drop_eq_nil_of_le (by omega : l.length ≤ i)]
    simp
end Tw

set_option maxHeartbeats 4000000
namespace Tw
open PySem PySem.Spec PyProof.Rows L2 LamX
/-! ### drawn numbers -/
abbrev pA : Int := 340282366920938463463374607431768211507
abbrev pB : Int := 340282366920938463463374607431768211297
abbrev pC : Int := 18446744073709551557
def dr1 (c k : Int) : Int := (c * 6364136223846793005 + (k + 1) * 1442695040888963407) % pA
def dr2 (c k : Int) : Int := dr1 c k * dr1 c k % pB
def dr (c k : Int) : Int := (dr2 c k % pC + 1) * (dr2 c k / pC + 1) * dr2 c k % pA
theorem dr1_rng (c k : Int) : 0 ≤ dr1 c k ∧ dr1 c k < pA := ⟨Int.emod_nonneg _ (by decide), Int.emod_lt_of_pos _ (by decide)⟩
theorem dr2_rng (c k : Int) : 0 ≤ dr2 c k ∧ dr2 c k < pB := ⟨Int.emod_nonneg _ (by decide), Int.emod_lt_of_pos _ (by decide)⟩
theorem dr_rng (c k : Int) : 0 ≤ dr c k ∧ dr c k < pA := ⟨Int.emod_nonneg _ (by decide), Int.emod_lt_of_pos _ (by decide)⟩
theorem dr1_abs (c k : Int) : (dr1 c k).natAbs < 2 ^ 129 := by have := dr1_rng c k; simp only [pA] at this; omega
theorem dr2_abs (c k : Int) : (dr2 c k).natAbs < 2 ^ 129 := by have := dr2_rng c k; simp only [pB] at this; omega
theorem dr2_a (c k : Int) : (dr2 c k % pC + 1).natAbs < 2 ^ 65 := by
  have h := Int.emod_nonneg (dr2 c k) (show pC ≠ 0 by decide)
  have h2 := Int.emod_lt_of_pos (dr2 c k) (show 0 < pC by decide)
  simp only [pC] at h h2 ⊢
  omega
theorem dr2_b (c k : Int) : (dr2 c k / pC + 1).natAbs < 2 ^ 129 := by
  have := dr2_rng c k
  have h : 0 ≤ dr2 c k / pC := Int.ediv_nonneg this.1 (by decide)
  have h2 : dr2 c k / pC ≤ dr2 c k := Int.ediv_le_self _ this.1
  simp only [pB] at this
  omega
/-- the cell that a turn looks at -/
def cellV (ns : List Int) (k : Nat) : Int := if ns = [] then (k : Int) * 7919 else ns.getD (k % ns.length) 0 + ((k / ns.length : Nat) : Int) * 104729
def mosts : List Int := [0, 1, 2, 7, 8, 255, 256, 10 ^ 9, 2 ^ 40 - 1]
theorem mosts_le (j : Nat) : 0 ≤ mosts.getD j 0 ∧ mosts.getD j 0 < 1099511627776 := by
  by_cases h : j < 9
  · have : ∀ i, i < 9 → 0 ≤ mosts.getD i 0 ∧ mosts.getD i 0 < 1099511627776 := by decide +kernel
    exact this j h
  · rw [List.getD_eq_getElem?_getD, List.getElem?_eq_none (show mosts.length ≤ j from Nat.le_of_not_lt h)]
    decide
end Tw

set_option maxHeartbeats 4000000
namespace Tw
open PySem PySem.Spec PyProof.Rows L2 LamX
/-! ### a text so many times -/
def rRepS : R2 := fun x y H Q => ∃ z k, x = .str z ∧ y = .int k ∧ MulOk z k ∧ Q (.str (Txt.mul z k)) H
theorem op_repS {X : Cx} : OpR X (binaryOp .Mult) rRepS := by
  intro pins s σ H x y v u Q I rx ry h
  obtain ⟨z, k, rfl, rfl, hok, q⟩ := h
  obtain ⟨t, rfl⟩ := rx
  obtain ⟨t', rfl⟩ := ry
  exact SB.mul hok fun t' tk => ⟨.str (Txt.mul z k), H, I.tok _, ⟨_, rfl⟩, q⟩
theorem fold_reps : ∀ (n : Nat) (c : Nat) (a : List Nat), (List.replicate n (#[c] : Array Nat)).foldl (· ++ ·) a.toArray = (a ++ List.replicate n c).toArray
  | 0, c, a => by simp
  | n + 1, c, a => by
    rw [List.replicate_succ, List.foldl_cons]
    have e : a.toArray ++ (#[c] : Array Nat) = (a ++ [c]).toArray := by simp
    rw [e, fold_reps n c, List.append_assoc]
    rfl
theorem mul_S (c : Nat) (k : Int) : Txt.mul (S [c]) k = S (List.replicate k.toNat c) := by
  unfold Txt.mul
  by_cases h : k < 1
  · rw [if_pos h, show k.toNat = 0 by omega]
    rfl
  · rw [if_neg h]
    by_cases h1 : k = 1
    · subst h1
      rfl
    · have hf : (k == 1 || (S [c]).length == 0) = false := by
        rw [Bool.or_eq_false_iff]
        exact ⟨by simpa using h1, rfl⟩
      rw [hf]
      show (⟨_⟩ : Str) = S _
      have := fold_reps k.toNat c []
      unfold S
      rw [List.nil_append] at this
      rw [← this]
theorem mulOk_S {c : Nat} {k : Int} (h1 : -1000000 ≤ k) (h2 : k ≤ 1000000) : MulOk (S [c]) k := by
  refine ⟨?_, fun h3 _ => ?_, fun h3 _ => ?_⟩
  · rw [Bool.or_eq_false_iff]
    exact ⟨decide_eq_false (by omega), decide_eq_false (by omega)⟩
  · have h5 : (1 : Int) ≤ (2 ^ 63 - 1) / k := by
      refine (Int.le_ediv_iff_mul_le (by omega)).mpr ?_
      omega
    show ¬ ((1 : Int) > _)
    omega
  · show decide (1 * k.toNat > sizeLine) = false
    refine decide_eq_false ?_
    have : sizeLine = 16777216 := by decide
    omega
theorem fold_repsA : ∀ (n : Nat) (c a : List Nat), (List.replicate n (c.toArray : Array Nat)).foldl (· ++ ·) a.toArray = (a ++ (List.replicate n c).flatten).toArray
  | 0, c, a => by simp
  | n + 1, c, a => by
    rw [List.replicate_succ, List.foldl_cons]
    have e : a.toArray ++ c.toArray = (a ++ c).toArray := by simp
    rw [e, fold_repsA n c, List.append_assoc]
    rfl
theorem mul_sb (l : List Bool) (k : Nat) (h2 : 2 ≤ k) (hl : l ≠ []) : Txt.mul (sb l) (k : Int) = sb (List.replicate k l).flatten := by
  unfold Txt.mul
  rw [if_neg (by omega)]
  have hlen : (sb l).length ≠ 0 := by
    rw [sb_len]
    exact fun z => hl (List.eq_nil_of_length_eq_zero z)
  have hf : ((k : Int) == 1 || (sb l).length == 0) = false := by
    rw [Bool.or_eq_false_iff]
    refine ⟨?_, by simpa using hlen⟩
    rw [beq_eq_false_iff_ne]
    omega
  rw [hf]
  show (⟨_⟩ : Str) = sb _
  have h3 := fold_repsA k (l.map bc) []
  unfold sb S
  rw [List.nil_append] at h3
  rw [List.map_flatten, List.map_replicate, ← h3]
  rfl
theorem mulOk_sb {l : List Bool} {k : Nat} (h1 : l.length ≤ 1000) (h2 : k ≤ 10000) : MulOk (sb l) (k : Int) := by
  refine ⟨?_, fun h3 _ => ?_, fun h3 _ => ?_⟩
  · rw [Bool.or_eq_false_iff]
    exact ⟨decide_eq_false (by omega), decide_eq_false (by omega)⟩
  · have h5 : (1000 : Int) ≤ (2 ^ 63 - 1) / (k : Int) := by
      refine (Int.le_ediv_iff_mul_le (by omega)).mpr ?_
      omega
    rw [sb_len]
    omega
  · show decide ((sb l).length * ((k : Int)).toNat > sizeLine) = false
    refine decide_eq_false ?_
    rw [sb_len, Int.toNat_natCast]
    have : sizeLine = 16777216 := by decide
    have := Nat.mul_le_mul h1 h2
    omega
theorem cutS_take (l : List Nat) (j : Nat) : cutS (S l) none (some (j : Int)) = S (l.take j) := by
  unfold cutS
  rw [HT.sIx_nat, S_len]
  show (⟨_⟩ : Str) = ⟨_⟩
  congr 2
  show (l.drop 0).take (min j l.length - 0) = _
  rw [List.drop_zero, Nat.sub_zero]
  by_cases hj : j ≤ l.length
  · rw [Nat.min_eq_left hj]
  · rw [Nat.min_eq_right (by omega), List.take_of_length_le (Nat.le_refl _), List.take_of_length_le (by omega)]
end Tw

set_option maxHeartbeats 4000000
namespace Tw
open PySem PySem.Spec PyProof.Rows L2 LamX
/-! ### text[::-1] -/
def tRevS (te : TE) : TE := fun σ H Q => te σ H fun x H1 => ∃ z, x = .str z ∧ z.length ≤ sizeLine ∧ Q (.str (S z.cps.toList.reverse)) H1
theorem rev_eq (z : Str) (u : Tok) : Txt.sliceBy z none none (-1, u) = S z.cps.toList.reverse := by
  have h := step_rev_list z u
  have e : Txt.sliceBy z none none (-1, u) = S (Txt.sliceBy z none none (-1, u)).cps.toList := S_of _
  rw [e, h]
  congr 1
  apply List.ext_getElem
  · simp [Str.length]
  · intro i h1 h2
    have h1 : i < z.cps.size := by simpa [Str.length] using h1
    rw [List.getElem_map, List.getElem_range, List.getElem_reverse]
    simp [Str.length, Array.getD]
    rw [dif_pos (by omega)]
theorem pe_revS {X : Cx} {e : Expr} {te : TE} {k : Nat} {p1 p2 p3 pos : Pos} (he : PE X e te) : PE X (.Subscript e (.Slice none none (some (.UnaryOp .USub (.Constant (.int 1) k p1) p2)) p3) pos) (tRevS te) := by
  refine ⟨fun pins s σ H Q I h => ?_⟩
  refine Subscript_ (thn (he.run pins s σ H _ I h) fun v s1 ⟨x, H1, I1, r1, q1⟩ => ?_)
  obtain ⟨z, ex, hz, q⟩ := q1
  subst ex
  obtain ⟨t, rfl⟩ := r1
  have hst : PO X (some (.UnaryOp .USub (.Constant (.int 1) k p1) p2)) (tPart (tUn (rU fun i => .int (-i)) (tC (.int 1)))) := po_some (pe_un un_neg pe_int)
  refine wpAny_Slice (thn (po_none.run pins s1 σ H1 (fun o H2 => o = none ∧ H2 = H1) I1 ⟨rfl, rfl⟩) fun vl s2 ⟨l, H2, I2, pl, el, e2⟩ => ?_)
  subst el e2
  refine thn (po_none.run pins s2 σ H2 (fun o H3 => o = none ∧ H3 = H2) I2 ⟨rfl, rfl⟩) fun vu s3 ⟨u, H3, I3, pu, eu, e3⟩ => ?_
  subst eu e3
  refine thn (hst.run pins s3 σ H3 (fun o H4 => o = some (-1) ∧ H4 = H3) I3 ⟨1, rfl, -1, rfl, rfl, rfl⟩) fun vs s4 ⟨o, H4, I4, ps, eo, e4⟩ => ?_
  subst eo e4
  have I5 : Inv X pins σ H4 { s4 with heap := s4.heap.push { cls := .type "slice", data := .fields #[vl, vu, vs] } } := I4.kept (t' := s4.toks) fun b ob q => Heap.get?_push_of_some _ q
  obtain ⟨l, rfl, hl⟩ := IsPart.raw pl
  obtain ⟨u, rfl, hu⟩ := IsPart.raw pu
  obtain ⟨st, rfl, hs⟩ := IsPart.raw ps
  cases l with
  | some l => cases hl
  | none =>
  cases u with
  | some u => cases hu
  | none =>
  cases st with
  | none => cases hs
  | some st =>
  obtain ⟨st, tk⟩ := st
  have hs : st = -1 := Option.some.inj hs
  subst hs
  refine tail_any (ops := [.str z t, .ref s4.heap.objs.size]) (typeIs_str _ _ _) F.slot_str_getitem.lookup ?_ (by with_unfolding_all rfl)
  refine wpAny_getItem_str_slice (l := none) (u := none) (st := some (-1, tk)) ⟨_, Heap.get?_push_size _ rfl, rfl, rfl⟩ rfl ?_
  refine post_val_or_str ⟨Nat.le_trans (Txt.sliceBy_le z none none (-1, tk) (show (-1 : Int) ≠ 0 by decide)) hz, fun t' c => ?_⟩
  exact ⟨.str (S z.cps.toList.reverse), H4, I5.tok _, ⟨t', by show Value.str (Txt.sliceBy z none none (-1, tk)) t' = _; rw [rev_eq]⟩, q⟩
end Tw

set_option maxHeartbeats 4000000
namespace Tw
open PySem PySem.Spec PyProof.Rows L2 LamX
/-! ### enumerate(text) -/
/-- the text's signs, each in a new pair with its place -/
def Ites (x : Str) : It :=
  ⟨fun i _ => i < x.cps.size, fun i H v H' => ∃ T c, v = .ref T ∧ H T = none ∧ H' = upd H T (.tup [.int (i : Nat), .str ⟨#[c]⟩]) ∧ x.cps[i]? = some c, fun i _ => i = x.cps.size⟩
theorem draws_text {P : Program} {w : World} {A : Around} (hh : A.handled = none) (it : Addr) (x : Str) (t : Tok) : Draws P w A it [it] x.cps.size (fun i v => ∃ c u, x.cps[i]? = some c ∧ v = .str ⟨#[c]⟩ u) (fun i h => h.IsStrIter it (strIterType x) x t i) := by
  unfold strIterType
  cases x.cps.all (· < 128)
  · exact Draws.strWide hh it x t
  · exact Draws.strAscii hh it x t
theorem turn_enumS {P : Program} {w : World} {K : PySem.W.Frag} {elts : List Expr} {kk : Nat} {tpos : Pos} (x : Str) (t : Tok) (e it : Addr) :
    Turn P w K (.Tuple elts kk tpos) (Ites x) [e, it] e (fun i h => (∃ old, IsEnum h e it ((i : Nat) : Int) old) ∧ h.IsStrIter it (strIterType x) x t i ∧ e ≠ it) where
  mem := by simp
  obj := fun i h st b hb => by
    obtain ⟨⟨old, he⟩, ⟨o, ho, hc, hd⟩, _⟩ := st
    have e' : b = e ∨ b = it := by simpa using hb
    rcases e' with z | z
    · rw [z]; exact ⟨_, he, fun v q => nomatch q⟩
    · rw [z]; exact ⟨o, ho, fun v q => by rw [hd] at q; cases q⟩
  keep := fun i h h' st k => let ⟨⟨old, he⟩, ⟨o, ho, r⟩, hne⟩ := st; ⟨⟨old, k e (by simp) _ he⟩, ⟨o, k it (by simp) o ho, r⟩, hne⟩
  item := by
    intro X hP hw hK hc i pins s σ H E I hf st hg
    subst hP hw hK
    obtain ⟨⟨old, he⟩, hit, hne⟩ := st
    have hel : e < s.heap.objs.size := Heap.lt_size he
    have hil : it < s.heap.objs.size := by obtain ⟨_, q, _⟩ := hit; exact Heap.lt_size q
    have D := draws_text (P := X.prog) (w := X.w) (A := X.A.in1) (I.ok.hd hc) it x t
    refine wpAny_pyNext_enum_itemD D he hit hg hne (by simpa using hne) fun u h' tk hu ho hit' hT hsz hk => ?_
    obtain ⟨c, tu, hcx, rfl⟩ := hu
    refine ⟨_, rfl, wpAny_letOwnedTupleGo_enum (s := { s with heap := h', toks := tk + 1 }) ho fun h'' he' sb => ?_⟩
    have hT2 : h''.get? s.heap.objs.size = some { cls := .type "tuple", data := .seq #[.int i tk, .str ⟨#[c]⟩ tu] } := (sb.2 _ (Nat.ne_of_gt hel)).trans hT
    have new : ObjOk X.prog X.w (upd H s.heap.objs.size (.tup [.int (i : Nat), .str ⟨#[c]⟩])) h'' s.heap.objs.size (.tup [.int (i : Nat), .str ⟨#[c]⟩]) :=
      ⟨by show 2 ≤ sizeLine; decide, [.int i tk, .str ⟨#[c]⟩ tu], .cons ⟨_, rfl⟩ (.cons ⟨_, rfl⟩ .nil), ⟨_, hT2, rfl, _, rfl⟩⟩
    have I1 : Inv X pins σ (upd H s.heap.objs.size (.tup [.int (i : Nat), .str ⟨#[c]⟩])) { s with heap := h'', toks := tk + 1 } :=
      I.turnedNew (ch := [e, it]) (fun b ob hb q => (sb.2 b (fun z => hb (by simp [z]))).trans (hk b ob (fun z => hb (by simp [z])) (fun z => hb (by simp [z])) q)) hf (Nat.le_refl _) new
    refine ⟨.ref s.heap.objs.size, _, I1, rfl, ⟨_, c, rfl, I.hok.fresh (Nat.le_refl _), rfl, hcx⟩, ⟨⟨.str ⟨#[c]⟩ tu, ?_⟩, ?_, hne⟩, fun b hb => ?_⟩
    · have e1 : ((i + 1 : Nat) : Int) = (i : Int) + 1 := by omega
      rw [e1]; exact he'
    · obtain ⟨o, q, r⟩ := hit'
      exact ⟨o, (sb.2 it (Ne.symm hne)).trans q, r⟩
    · have hb' : b < s.heap.objs.size := by
        have e' : b = e ∨ b = it := by simpa using hb
        rcases e' with z | z
        · rw [z]; exact hel
        · rw [z]; exact hil
      rw [upd_ne (Nat.ne_of_lt hb')]
      exact (hf b hb).1
  done := by
    intro X hP hw hK hc i pins s σ H E I hf st hg
    subst hP hw hK
    obtain ⟨⟨old, he⟩, hit, hne⟩ := st
    obtain ⟨f0, f1, f2, f3, f4, f5⟩ := hf it (by simp)
    have hg : i = x.cps.size := hg
    subst hg
    have D := draws_text (P := X.prog) (w := X.w) (A := X.A.in1) (I.ok.hd hc) it x t
    exact wpAny_pyNext_enum_endD D he hit fun h' eb => ⟨rfl, I.turned (t' := s.toks) (fun b o hb q => eb b o hb q) f0 f1 f3 f4 f5⟩
  self := fun A i s Q E st h => let ⟨⟨_, he⟩, _⟩ := st; wpAny_pyIter_enum he h
def iEnumS (ta : TA) : TI := fun σ H R => ta σ H fun vs H1 => ∃ x, vs = [.str x] ∧ R (Ites x) H1
theorem pi_enumSK {X : Cx} {K : PySem.W.Frag} (eK : X.K = K) {e : Expr} {ta : TA} {p pos tpos : Pos} {elts : List Expr} {kk : Nat} (hg : Gl X "enumerate") (hm : X.mg "enumerate" = none) (ha : PA X [e] ta) (hs : starEach [e] X.env = [(false, eval e X.env)]) :
    PI X (.Tuple elts kk tpos) (.Call (.Name "enumerate" p) [e] [] pos) (iEnumS ta) := by
  refine ⟨fun pins s σ H R I h => ?_⟩
  refine Call_ (ld_blt I hg hm boot_enumerate (PyProof.Rows.callWith_type1 (thn (ha.run pos pins s σ H _ I h) fun us s1 ⟨vs, H1, I1, r1, q1⟩ => ?_) hs rfl))
  obtain ⟨x, ex, q⟩ := q1
  subst ex
  cases r1 with
  | cons r rr =>
    cases rr
    obtain ⟨t, rfl⟩ := r
    refine call_enumerate_str fun h' he hit hsz hk => wpAny_pyIter_enum he ?_
    have I2 : Inv X pins σ H1 { s1 with heap := h' } := I1.kept (t' := s1.toks) hk
    refine ⟨s1.heap.objs.size + 1, [s1.heap.objs.size + 1, s1.heap.objs.size], _, _, H1, rfl, I2, turn_enumS x t (s1.heap.objs.size + 1) s1.heap.objs.size, ⟨⟨.none, he⟩, hit, Nat.succ_ne_self _⟩, fun b hb => ?_, q⟩
    have e' : b = s1.heap.objs.size + 1 ∨ b = s1.heap.objs.size := by simpa using hb
    have hle : s1.heap.objs.size ≤ b := by
      rcases e' with z | z
      · rw [z]; exact Nat.le_add_right _ _
      · rw [z]; exact Nat.le_refl _
    exact I1.fpOk hle (I1.hok.fresh hle)
theorem w_enumS {l : List Nat} : Walk (Ites (S l)) l.length (fun _ => True) (fun i H x H' => ∃ (T : Addr) (c : Nat), x = .ref T ∧ H T = none ∧ H' = upd H T (.tup [.int (i : Nat), .str (S [c])]) ∧ l[i]? = some c) := by
  have e : (S l).cps.size = l.length := S_len l
  refine ⟨fun i _ hi _ => by show i < (S l).cps.size; omega, fun _ _ => e.symm, fun i H v H' _ _ y => ?_⟩
  obtain ⟨T, c, h1, h2, h3, h4⟩ := y
  exact ⟨T, c, h1, h2, h3, by simpa [S] using h4⟩
/-! ### comprehensions whose items are new objects -/
section
variable {lo : Prop} {T : List (Addr × Str)} {J : It} {n : Nat} {G : Hp → Prop} {y : Nat → V → Prop} {te : TE} {j : Nat} {σ : L2.St} {H1 : Hp} {D : Addr} {Qd : Hp → Prop}
theorem lcV (P : Nat → List V → Hp → Prop) (w : Walk J n G (Yy y)) (hD : H1 D = none) (hn : n ≤ 1000000) (hG : ∀ H', Xg lo T H1 H' → G H') (h0 : P 0 [] (upd H1 D (.lst [])))
    (he : ∀ i x H' vs, i < n → y i x → Xg lo T H1 H' → P i vs H' → H' D = some (.lst vs) → ∀ Q : VK, (∀ v H4, Xg lo T H' H4 → P (i + 1) (vs ++ [v]) (upd H4 D (.lst (vs ++ [v]))) → Q v H4) → te ((wipe σ [j]).set j (some x)) H' Q)
    (hd : ∀ H' vs, Xg lo T H1 H' → P n vs H' → vs.length = n → H' D = some (.lst vs) → Qd H') :
    ∃ W : Nat → Nat → Hp → Prop, (∃ m, W 0 m (upd H1 D (.lst []))) ∧ ∀ i m H, W i m H →
      (J.stop i H ∧ Qd H) ∨ (J.go i H ∧ ∃ Nx : Hp → Prop, (∀ H', Nx H' → ∃ m', m' < m ∧ W (i + 1) m' H') ∧ ∀ x H', J.yld i H x H' → gName j x (wipe σ [j]) H' fun σ2 H2 => wipe σ2 [j] = wipe σ [j] ∧ tYes σ2 H2 fun b H3 =>
        if b = true then te σ2 H3 fun y H4 => ∃ acc, H4 D = some (.lst acc) ∧ acc.length < sizeLine ∧ Nx (upd H4 D (.lst (acc ++ [y]))) else Nx H3) := by
  refine lc_it w (fun i H => Xg lo T H1 H ∧ ∃ vs : List V, P i vs H ∧ vs.length = i ∧ H D = some (.lst vs)) ⟨Xg.new hD, [], h0, rfl, upd_same ..⟩ (fun i H _ p => hG H p.1) (fun i x H H' hi p hy => ?_) fun H p => by
    obtain ⟨x1, vs, h1, h2, h3⟩ := p
    exact hd H vs x1 h1 h2 h3
  obtain ⟨eH, hy⟩ := hy
  subst eH
  obtain ⟨x1, vs, h1, h2, h3⟩ := p
  refine ⟨wipe1 σ j _, ?_⟩
  unfold tYes
  refine iteT ?_
  refine he i x _ vs hi hy x1 h1 h3 _ fun v H5 x5 p5 => ?_
  have e5 := x5.lst h3
  refine ⟨_, e5, ?_, (x1.trans x5).mut (.of hD) e5, vs ++ [v], p5, by rw [List.length_append, h2]; rfl, upd_same ..⟩
  rw [h2]
  exact Nat.lt_of_lt_of_le hi (Nat.le_trans hn (by decide))
end
end Tw

set_option maxHeartbeats 4000000
namespace Tw
open PySem PySem.Spec PyProof.Rows L2 LamX
/-! ### sorted(dict), keys hI, any number of them -/
def rSortD : List V → Hp → VK → Prop := fun args H Q => ∃ (d : Addr) (es : List (L2.Key × V)) (ns : List Int), args = [.ref d] ∧ Rd H d (.dK es) ∧ es.map Prod.fst = ns.map Sum.inl ∧ ns.length ≤ 100000 ∧
  ∀ (zs : List Int) (l : Addr), zs.Perm ns → zs.Pairwise (· ≤ ·) → H l = none → Q (.ref l) (upd H l (.lst (zs.map V.int)))
theorem key_int {n : Int} {u : Value} (h : keyIs (Sum.inl n) u = true) : ∃ t, u = .int n t := by
  rcases keyIs_shape h with ⟨m, t, e, r⟩ | ⟨_, _, e, _⟩
  · injection e with e
    exact ⟨t, by rw [r, e]⟩
  · exact nomatch e
theorem cr_sortedDict {X : Cx} (cm : X.calm = true) : CallR X (.builtin "sorted") rSortD := by
  intro pins st σ H args us Q I ra hyp
  obtain ⟨d, es, ns, rfl, hd, hk, hn, fin⟩ := hyp
  have eu : us = [.ref d] := by
    obtain ⟨u, rfl, ru⟩ := vals1 ra
    cases ru
    rfl
  subst eu
  obtain ⟨hz, hnm, fs, kv, dic⟩ := dk_rd I.hok hd
  obtain ⟨epoch, hda⟩ := dic.dictAt
  have hfst : fs.map Prod.fst = ns.map Sum.inl := by rw [← hk]; exact kv.keys.symm
  have hlen : fs.length = ns.length := by simpa using congrArg List.length hfst
  have big : ∀ k, k ≤ 100000 → k ≤ sizeLine := fun k h => Nat.le_trans h (by decide)
  refine Calls.call_function_entry PyProof.Rows.kind_sorted PyProof.Rows.plain_sorted PyProof.Rows.entry_sorted (PyProof.Rows.args_sorted1 _) ?_
  unfold Builtin.«sorted»
  refine wpAny_bind (m := checkCount "sorted" 1 1 _) (wpAny_pure (wpAny_bind (PySem.W.kdu_collect (A := X.A.in1) (PySem.W.kdl_dict (knd := mixKind X.prog X.w) (kvs := fs) (ep := epoch) hnm) (I.ok.hd cm) hda (big _ (hlen ▸ hn)) fun h1 tk got keep tells => ?_)))
  have glen : got.toList.length = ns.length := by simpa [hlen] using tells.1
  have hI : IntsAre got.toList ns := ints_each glen fun j v e => by
    obtain ⟨k, x, e1, e2⟩ := tells.2 j v (by simpa using e)
    have e3 : (ns.map Sum.inl)[j]? = some k := by rw [← hfst, List.getElem?_map, e1]; rfl
    rw [List.getElem?_map] at e3
    obtain ⟨n, e4, rfl⟩ := Option.map_eq_some_iff.mp e3
    obtain ⟨t, ev⟩ := key_int (n := n) e2
    exact ⟨n, t, e4, ev⟩
  have J : Inv X pins σ H { st with heap := h1, toks := tk } := I.kept keep
  refine wpAny_bind (wpAny_newList ?_ (big _ (glen ▸ hn)))
  have new : (h1.push (seqObj "list" got.toList.toArray 0)).get? h1.objs.size = some (seqObj "list" got.toList.toArray 0) := Heap.get?_push_size _ rfl
  show wpAny _ _ _ _ _ { st with heap := h1.push (seqObj "list" got.toList.toArray 0), toks := tk }
  refine wpAny_bind (wpAny_holding (wpAny_call_entry PyProof.Rows.slot_list_sort ⟨_, new, rfl⟩ PyProof.Rows.entry_list_sort (SrtO.list_sort_ord (s := { st with heap := h1.push (seqObj "list" got.toList.toArray 0), toks := tk }) SrtO.swo_int new
    (big _ (glen ▸ hn)) (fun two => SrtO.ints_sortable hI two) fun out s1 s2 => ⟨_, rfl, ?_⟩) (PyProof.Rows.args_list_sort _)))
  obtain ⟨o1, o2, o3⟩ := SrtO.ints_out hI s1 s2
  obtain ⟨e2, at2⟩ := PyProof.Rows.sortedHeap_at (vs := got.toList) (out := out.toArray) new
  have fits : ((out.map SrtO.iv).map V.int).length ≤ sizeLine := by
    rw [List.length_map, o2.length_eq]
    exact big _ hn
  refine wpAny_pure ⟨_, rfl, .ref h1.objs.size, _, J.laid (o := .lst ((out.map SrtO.iv).map V.int)) (t' := tk) (fun b u e => ?_) (Nat.le_refl _) ⟨fits, out, e2, vals_of_ints o1, at2⟩, rfl, fin _ _ o2 o3 (J.hok.fresh (Nat.le_refl _))⟩
  have hb := Heap.lt_size e
  rw [PyProof.Rows.sortedHeap_old (Nat.ne_of_lt hb) (by rw [size_push']; exact Nat.lt_succ_of_lt hb)]
  exact Heap.get?_push_of_some _ e
end Tw

set_option maxHeartbeats 4000000
namespace Tw
open PySem PySem.Spec PyProof.Rows L2 LamX
/-! ### a new heap by a name -/
section
variable {lo : Prop} {T : List (Addr × Str)} {K : PySem.W.Frag} {H H' : Hp} {p : Addr} {o : HO} {Q : VK}
theorem newE (h : upd H p o = H') (n : H p = none) : Xg lo T H H' := h ▸ .new n
theorem atE (h : upd H p o = H') : H' p = some o := h ▸ upd_same ..
theorem neS_same {z : Str} (hz : PyData.strOk z = true) (q : Q (.bl false) H) : rNeD K (.str z) (.str z) H Q := neD_same (.str _) (.str _) (sh_str hz) q
theorem neSC {σ : L2.St} {z : Str} (hz : PyData.strOk z = true) (q : Q (.bl false) H) : tC (.str z) σ H fun y H2 => rNeD K (.str z) y H2 Q := neS_same hz q
end
theorem len_app (a b : Str) : (a ++ b).length = a.length + b.length := by
  show (a.cps ++ b.cps).size = a.cps.size + b.cps.size
  exact Array.size_append
theorem lapp {a b : Str} {i j : Nat} (ha : a.length ≤ i) (hb : b.length ≤ j) : (a ++ b).length ≤ i + j := by
  rw [len_app]
  exact Nat.add_le_add ha hb
section
variable {X : Cx} {K : PySem.W.Frag}
theorem pe_revLK (eK : X.K = K) {e : Expr} {te : TE} {k : Nat} {p1 p2 p3 pos : Pos} (he : PE X e te) : PE X (.Subscript e (.Slice none none (some (.UnaryOp .USub (.Constant (.int 1) k p1) p2)) p3) pos) (tRevL K te) := by subst eK; exact pe_revL he
end
section
variable {X : Cx} {o i value : Expr} {pos pos' : Pos} {td ty tv : TE}
theorem pe_dgetU (hu : X.A.units + 64 < cLine) (ho : PE X o td) (hi : PE X i ty) (hs : NoSl i) : PE X (.Subscript o i pos) (tDGet td ty) := pe_dget (by omega) ho hi hs
theorem ps_dputU (hu : X.A.units + 64 < cLine) (ho : PE X o td) (hi : PE X i ty) (hv : PE X value tv) (hs : swapsWith value (some (.Subscript o i pos')) pos.line X.env = pure false) : PS X (.Assign [.Subscript o i pos'] value pos) (sDPut td ty tv) := ps_dput (by omega) ho hi hv hs
end
theorem mul_one (n : Nat) (h : 2 ≤ n) (b : Bool) : Txt.mul (sb [b]) (n : Int) = sb (List.replicate n b) := by
  rw [mul_sb [b] n h (by simp)]
  congr 1
  clear h
  induction n with
  | zero => rfl
  | succ n ih => rw [List.replicate_succ, List.flatten_cons, ih, List.replicate_succ]; rfl
end Tw

set_option maxHeartbeats 4000000
namespace Tw
open PySem PySem.Spec PyProof.Rows L2 LamX
/-! ### refusals told one behind the other -/
structure BN (T : List (Addr × Str)) (H0 : Hp) (z : Str) (p : Addr) (i : Nat) (H : Hp) : Prop where
  x : Xt T H0 H
  n : Nw H0 p
  e : H p = some (.lst (List.replicate i (.str z)))
section
variable {T : List (Addr × Str)} {K : PySem.W.Frag} {H0 H H' : Hp} {p p2 : Addr} {z : Str} {i : Nat}
theorem BN.xt (s : BN T H0 z p i H) (x : Xt T H H') : BN T H0 z p i H' := ⟨s.x.trans x, s.n, x.lst s.e⟩
theorem BN.app (s : BN T H0 z p i H) (h : upd H p (.lst (List.replicate i (.str z) ++ [.str z])) = H') : BN T H0 z p (i + 1) H' := by
  subst h
  exact ⟨s.x.mut s.n s.e, s.n, by rw [upd_same, List.replicate_succ']⟩
theorem BN.new (x : Xt T H0 H) (n : H p = none) (h : upd H p (.lst [.str z]) = H') : BN T H0 z p 1 H' :=
  ⟨x.trans (newE h n), x.nw (.of n), atE h⟩
theorem BN.cat (s : BN T H0 z p i H) (n : H p2 = none) (h : upd H p2 (.lst (List.replicate i (.str z) ++ [.str z])) = H') : BN T H0 z p2 (i + 1) H' :=
  ⟨s.x.trans (newE h n), s.x.nw (.of n), by rw [atE h, List.replicate_succ']⟩
theorem rep_lt (h : i ≤ 1000) : (List.replicate i (V.str z)).length < sizeLine := by
  rw [List.length_replicate]
  exact Nat.lt_of_le_of_lt h (by decide)
theorem rep_flatV (n : Nat) (v : V) : (List.replicate n [v]).flatten = List.replicate n v := by
  induction n with
  | zero => rfl
  | succ n ih => rw [List.replicate_succ, List.flatten_cons, ih, List.replicate_succ]; rfl
theorem dp_rep {a : Addr} {n : Nat} (e : H a = some (.lst (List.replicate n (.str z)))) : Dp K H (.ref a) (.list ((List.replicate n z).map .str)) := dp_strs (SqL.of (by rw [e, List.map_replicate]))
theorem sh_rep {n : Nat} (h : PyData.strOk z = true) : Sh 64 (.list ((List.replicate n z).map .str)) := sh_strs fun x hx => by rw [(List.mem_replicate.mp hx).2]; exact h
theorem gv {j : Nat} {v x : V} {σ : L2.St} {D : L2.St → Hp → Prop} (e : x = v) (h : gName j v σ H D) : gName j x σ H D := by
  subst e
  exact h
end
end Tw

set_option maxHeartbeats 4000000
namespace Tw
open PySem PySem.Spec PyProof.Rows L2 LamX
/-! ### sorted(data) -/
abbrev DV := V × PyData
abbrev srtD (bs : List DV) : List DV := bs.mergeSort (PySem.W.dataLe false Prod.snd)
def rSortDat (K : PySem.W.Frag) : List V → Hp → VK → Prop := fun vs H Q => ∃ (a : Addr) (bs : List DV), vs = [V.ref a] ∧ SqL K H a (bs.map Prod.fst) ∧ (∀ b ∈ bs, Dp K H b.1 b.2) ∧ PySem.W.AllAlike (bs.map Prod.snd) ∧ PySem.W.Sortable (bs.map Prod.snd) ∧ (∀ b ∈ bs, b.2.depth ≤ 62) ∧
  ∀ p, H p = none → Q (.ref p) (upd H p (.lst ((srtD bs).map Prod.fst)))
theorem each_rel {P : DV → Prop} : ∀ {bs : List DV} {us : List Value}, Vals (bs.map Prod.fst) us → (∀ b ∈ bs, P b) → PySem.W.EachIs (fun (u : Value) (b : DV) => RelV b.1 u ∧ P b) us bs
  | [], us, h, _ => by
    cases h
    exact .nil
  | b :: bs, us, h, hp => by
    cases h with
    | cons r h => exact .cons ⟨r, hp b (List.mem_cons_self ..)⟩ (each_rel h fun c hc => hp c (List.mem_cons_of_mem _ hc))
theorem rel_each {P : DV → Prop} {us : List Value} {bs : List DV} (h : PySem.W.EachIs (fun (u : Value) (b : DV) => RelV b.1 u ∧ P b) us bs) : Vals (bs.map Prod.fst) us := by
  induction h with
  | nil => exact .nil
  | cons r _ ih => exact .cons r.1 ih
theorem cr_sortDat {X : Cx} {K : PySem.W.Frag} (eK : X.K = K) (hu : X.A.units + 64 < cLine) : CallR X (.builtin "sorted") (rSortDat K) := by
  subst eK
  intro pins s σ H vs us Q I r h
  obtain ⟨a, bs, rfl, hs, hd, hal, hso, hdp, q⟩ := h
  obtain ⟨its, rv, hl, hz⟩ := I.list hs
  rw [Vals.ref1 r]
  have e := each_rel (P := fun b => Dp X.K H b.1 b.2) rv hd
  have hb : bs.length ≤ sizeLine := by rw [List.length_map] at hz; exact hz
  refine PySem.W.sorted_data (enc := Prod.snd) hl.isList e (e.mono fun u b ⟨r1, d1⟩ => Dp.reads I _ _ _ d1 r1) hal hso hb (fun b hm => by have := hdp b hm; omega) fun out hol eo => ?_
  obtain ⟨ep, at2⟩ := PyProof.Rows.sortedAll_at s.heap its (List.toArray out)
  have hlen : ((srtD bs).map Prod.fst).length ≤ sizeLine := by
    rw [List.length_map, List.length_mergeSort]
    exact hb
  exact ⟨.ref _, upd H (s.heap.objs.size + 1) (.lst ((srtD bs).map Prod.fst)), I.laid (t' := s.toks) (fun _ _ => PyProof.Rows.sortedAll_old) (Nat.le_succ _) ⟨hlen, out, ep, rel_each eo, at2⟩, rfl, q _ (I.hok.fresh (Nat.le_succ _))⟩
end Tw

set_option maxHeartbeats 4000000
namespace Tw
open PySem PySem.Spec PyProof.Rows L2 LamX
/-! ### the places at which f holds -/
def fr (f : Nat → Bool) (n : Nat) : List Nat := (List.range n).filter f
section
variable {f : Nat → Bool} {n p : Nat}
theorem fr_succ : fr f (n + 1) = fr f n ++ if f n = true then [n] else [] := by
  unfold fr
  rw [List.range_succ, List.filter_append]
  congr 1
  by_cases h : f n = true
  · simp [h]
  · simp [h]
theorem fr_len_succ : (fr f (n + 1)).length = (fr f n).length + if f n = true then 1 else 0 := by
  rw [fr_succ, List.length_append]
  split <;> rfl
theorem fr_mono (h : p ≤ n) : (fr f p).length ≤ (fr f n).length := by
  induction n with
  | zero => rw [Nat.le_zero.mp h]; exact Nat.le_refl _
  | succ n ih =>
    rcases Nat.lt_or_ge n p with h1 | h1
    · rw [show p = n + 1 by omega]; exact Nat.le_refl _
    · rw [fr_len_succ]
      have := ih h1
      omega
theorem fr_le : (fr f n).length ≤ n := by
  unfold fr
  exact Nat.le_trans (List.length_filter_le _ _) (by rw [List.length_range]; exact Nat.le_refl _)
theorem fr_mem {x : Nat} : x ∈ fr f n ↔ x < n ∧ f x = true := by
  unfold fr
  rw [List.mem_filter, List.mem_range]
theorem fr_take (h : p ≤ n) : (fr f n).take (fr f p).length = fr f p := by
  induction n with
  | zero => rw [Nat.le_zero.mp h]; exact List.take_of_length_le (Nat.le_refl _)
  | succ n ih =>
    rcases Nat.lt_or_ge n p with h1 | h1
    · rw [show p = n + 1 by omega]; exact List.take_of_length_le (Nat.le_refl _)
    · rw [fr_succ, List.take_append_of_le_length (fr_mono h1), ih h1]
theorem fr_get (h : p < n) (hp : f p = true) : (fr f n)[(fr f p).length]? = some p := by
  induction n with
  | zero => omega
  | succ n ih =>
    rw [fr_succ]
    rcases Nat.lt_or_ge p n with h1 | h1
    · have e := ih h1
      rw [List.getElem?_append_left (List.getElem?_eq_some_iff.mp e).1]
      exact e
    · have e : p = n := by omega
      subst e
      rw [hp, List.getElem?_append_right (Nat.le_refl _), Nat.sub_self]
      rfl
theorem fr_lt (h : p ≤ n) : (fr f n).filter (fun i => decide (i < p)) = fr f p := by
  induction n with
  | zero => rw [Nat.le_zero.mp h]; rfl
  | succ n ih =>
    rcases Nat.lt_or_ge n p with h1 | h1
    · rw [show p = n + 1 by omega, List.filter_eq_self]
      intro x hx
      exact decide_eq_true (fr_mem.mp hx).1
    · rw [fr_succ, List.filter_append, ih h1]
      by_cases hf : f n = true
      · rw [if_pos hf, List.filter_cons, if_neg (by rw [decide_eq_false (by omega)]; decide)]
        exact List.append_nil _
      · rw [if_neg hf]
        exact List.append_nil _
theorem fr_ge (h : p ≤ n) : (fr f n).filter (fun i => decide (i ≥ p)) = (fr f n).drop (fr f p).length := by
  induction n with
  | zero => rw [Nat.le_zero.mp h]; rfl
  | succ n ih =>
    rcases Nat.lt_or_ge n p with h1 | h1
    · rw [show p = n + 1 by omega, List.drop_of_length_le (Nat.le_refl _), List.filter_eq_nil_iff]
      intro x hx hd
      have := (fr_mem.mp hx).1
      have := of_decide_eq_true hd
      omega
    · rw [fr_succ, List.filter_append, ih h1, List.drop_append_of_le_length (fr_mono h1)]
      congr 1
      by_cases hf : f n = true
      · rw [if_pos hf, List.filter_cons, if_pos (decide_eq_true h1)]
        rfl
      · rw [if_neg hf]
        rfl
theorem fr_add (a k : Nat) : (fr f (a + k)).length = (fr f a).length + (fr (fun i => f (a + i)) k).length := by
  induction k with
  | zero => rfl
  | succ k ih =>
    rw [show a + (k + 1) = (a + k) + 1 from rfl, fr_len_succ, ih, fr_len_succ]
    omega
theorem fr_congr {g : Nat → Bool} (h : ∀ i, i < n → f i = g i) : fr f n = fr g n := by
  unfold fr
  exact List.filter_congr fun i hi => h i (List.mem_range.mp hi)
end
/-! ### a row's places -/
def bt (b : Bool) (l : List Bool) (i : Nat) : Bool := l[i]? == some b
def pos (b : Bool) (l : List Bool) : List Nat := fr (bt b l) l.length
def cn (b : Bool) (l : List Bool) (p : Nat) : Nat := (fr (bt b l) p).length
section
variable {b : Bool} {l : List Bool} {p n : Nat}
theorem bt_iff : bt b l p = true ↔ l[p]? = some b := by unfold bt; exact beq_iff_eq
theorem cn_zero : cn b l 0 = 0 := rfl
theorem cn_succ : cn b l (p + 1) = cn b l p + if bt b l p = true then 1 else 0 := fr_len_succ
theorem cn_le : cn b l p ≤ p := fr_le
theorem cn_mono (h : p ≤ n) : cn b l p ≤ cn b l n := fr_mono h
theorem cn_two (h : p ≤ l.length) : cn true l p + cn false l p = p := by
  induction p with
  | zero => rfl
  | succ p ih =>
    have ih := ih (by omega)
    rw [cn_succ, cn_succ]
    have : l[p]? = some true ∨ l[p]? = some false := by
      rw [List.getElem?_eq_getElem (show p < l.length by omega)]
      cases l[p]
      · exact .inr rfl
      · exact .inl rfl
    rcases this with h | h
    · rw [if_pos (bt_iff.mpr h), if_neg (fun z => by rw [bt_iff.mp z] at h; cases h)]
      omega
    · rw [if_pos (bt_iff.mpr h), if_neg (fun z => by rw [bt_iff.mp z] at h; cases h)]
      omega
theorem pos_len : (pos b l).length = cn b l l.length := rfl
theorem pos_get (hp : l[p]? = some b) : (pos b l)[cn b l p]? = some p := fr_get (List.getElem?_eq_some_iff.mp hp).1 (bt_iff.mpr hp)
theorem pos_none (h : cn b l l.length ≤ n) : (pos b l)[n]? = none := List.getElem?_eq_none h
end
theorem sum_bits (l : List Bool) (a : Nat) : ∀ (k : Nat), a + k ≤ l.length → (((List.range k).map fun i => (((l.getD (a + i) false).toNat : Nat) : Int)).sum) = ((cn true l (a + k) : Nat) : Int) - (cn true l a : Nat)
  | 0, _ => by simp
  | k + 1, h => by
    have ih := sum_bits l a k (by omega)
    rw [List.range_succ, List.map_append, List.sum_append, ih, show a + (k + 1) = (a + k) + 1 from rfl, cn_succ]
    have e : l[a + k]? = some l[a + k] := List.getElem?_eq_getElem (by omega)
    simp only [List.map_cons, List.map_nil, List.sum_cons, List.sum_nil, List.getD_eq_getElem?_getD, e, Option.getD_some]
    cases hb : l[a + k] with
    | true =>
      rw [if_pos (bt_iff.mpr (by rw [e, hb]))]
      simp
      omega
    | false =>
      rw [if_neg (fun z => by rw [bt_iff.mp z] at e; rw [hb] at e; cases e)]
      simp
def on : Option Nat → V
  | some p => .int p
  | none => .non
theorem cn_all (b : Bool) : ∀ l : List Bool, cn b l l.length = l.count b
  | [] => rfl
  | x :: r => by
    have ih := cn_all b r
    unfold cn at ih ⊢
    have e2 : fr (fun i => bt b (x :: r) (1 + i)) r.length = fr (bt b r) r.length := fr_congr fun i _ => by
      unfold bt
      rw [Nat.add_comm 1 i, List.getElem?_cons_succ]
    have e3 : (fr (bt b (x :: r)) (0 + 1)).length = if x = b then 1 else 0 := by
      rw [fr_len_succ]
      show 0 + _ = _
      unfold bt
      by_cases h : x = b
      · simp [h]
      · simp [h]
    rw [List.length_cons, Nat.add_comm r.length 1, fr_add, e2, ih, List.count_cons, show (1 : Nat) = 0 + 1 from rfl, e3]
    by_cases h : x = b
    · simp [h]
      omega
    · simp [h]
theorem count_alt : ∀ k : Nat, ((List.replicate k [true, false]).flatten).count true = k ∧ ((List.replicate k [true, false]).flatten).length = 2 * k
  | 0 => ⟨rfl, rfl⟩
  | k + 1 => by
    obtain ⟨h1, h2⟩ := count_alt k
    rw [List.replicate_succ, List.flatten_cons]
    refine ⟨?_, ?_⟩
    · rw [List.count_append, h1]
      show 1 + k = k + 1
      omega
    · rw [List.length_append, h2]
      show 2 + 2 * k = _
      omega
def dOn : Option Nat → PyData
  | some p => .int p
  | none => .none
theorem dp_on {K : PySem.W.Frag} {H : Hp} (o : Option Nat) : Dp K H (on o) (dOn o) := by
  cases o with
  | none => exact .non
  | some p => exact .int _
theorem sh_on {n : Nat} (o : Option Nat) : Sh n (dOn o) := by
  cases o with
  | none => exact sh_non
  | some p => exact sh_int
theorem kept_list (L : List Nat) (g : Nat → Bool) (h : Nat → V) : kept L.length (fun i => g (L.getD i 0)) (fun i => h (L.getD i 0)) = (L.filter g).map h := by
  unfold kept
  have e : L = (List.range L.length).map fun i => L.getD i 0 := by
    refine List.ext_getElem (by simp) fun i h1 h2 => ?_
    simp [List.getD_eq_getElem?_getD, List.getElem?_eq_getElem h1]
  conv => rhs; rw [e]
  rw [List.filter_map, List.map_map]
  rfl
theorem first_on (A : List Nat) : atI (A.map (fun (i : Nat) => V.int i) ++ [.non]) 0 = some (on A[0]?) := by
  cases A with
  | nil => rfl
  | cons a A => exact atI_nat (j := 0) rfl
theorem last_on (A : List Nat) : atI ([.non] ++ A.map (fun (i : Nat) => V.int i)) (-1) = some (on (if A.length = 0 then none else A[A.length - 1]?)) := by
  rcases List.eq_nil_or_concat A with h | ⟨B, b, h⟩
  · subst h
    rfl
  · have h : A = B ++ [b] := by rw [h, List.concat_eq_append]
    subst h
    rw [List.map_append, ← List.append_assoc]
    have hl : (B ++ [b]).length = B.length + 1 := by simp
    rw [hl, if_neg (by omega), Nat.add_sub_cancel, List.getElem?_append_right (Nat.le_refl _), Nat.sub_self]
    exact atI_last _ _
/-! ### counted signs -/
open StrLaws Builtin Builtin.Str in
theorem occ_one (x : Str) (c limit : Nat) : ∀ (k i : Nat) (st : Array Nat × Nat), st.2 ≤ i → st.1.size + k ≤ limit →
    (forIn (List.range' i k) st (occBody x ⟨#[c]⟩ x.length limit)).run.fst.toList = st.fst.toList ++ (List.range' i k).filter (fun j => x.cps.toList[j]? == some c)
  | 0, i, st, _, _ => by simp
  | k + 1, i, st, h1, h2 => by
    rw [List.range'_succ, List.forIn_cons]
    unfold occBody
    by_cases hc : x.cps.toList[i]? = some c
    · have hs := (subAt_one x c i).mpr hc
      rw [if_pos ⟨⟨⟨by omega, h1⟩, hs.1⟩, hs.2⟩]
      have ih := occ_one x c limit k (i + 1) (st.fst.push i, i + (⟨#[c]⟩ : Str).length) (Nat.le_refl _) (by rw [Array.size_push]; omega)
      rw [List.filter_cons, if_pos (beq_iff_eq.mpr hc)]
      refine Eq.trans ih ?_
      rw [Array.toList_push, List.append_assoc]
      rfl
    · rw [if_neg (fun z => hc ((subAt_one x c i).mp ⟨z.1.2, z.2⟩))]
      have ih := occ_one x c limit k (i + 1) (st.fst, st.snd) (Nat.le_succ_of_le h1) (by show st.1.size + k ≤ limit; omega)
      rw [List.filter_cons, if_neg (fun z => hc (beq_iff_eq.mp z))]
      exact ih
theorem count_sign (l : List Bool) (b : Bool) : Txt.count (sb l) (sb [b]) = (cn b l l.length : Int) := by
  have e1 : sb [b] = ⟨#[bc b]⟩ := rfl
  unfold Txt.count
  rw [e1, StrLaws.occ_eq, occ_one (sb l) (bc b) ((sb l).length + 1) ((sb l).length + 1 - 0) 0 (#[], 0) (Nat.le_refl _) (by show 0 + ((sb l).length + 1 - 0) ≤ _; omega)]
  congr 1
  show (([] : List Nat) ++ (List.range' 0 ((sb l).length + 1 - 0)).filter _).length = (fr (bt b l) l.length).length
  rw [List.nil_append, Nat.sub_zero, sb_len, ← List.range_eq_range', List.range_succ, List.filter_append]
  have h0 : (sb l).cps.toList = l.map bc := rfl
  rw [h0]
  have h1 : List.filter (fun j => (l.map bc)[j]? == some (bc b)) [l.length] = [] := by
    rw [List.filter_cons, List.getElem?_eq_none (by rw [List.length_map]; exact Nat.le_refl _)]
    rfl
  rw [h1, List.append_nil]
  congr 1
  refine List.filter_congr fun i hi => ?_
  unfold bt
  rw [List.getElem?_map]
  cases l[i]? with
  | none => rfl
  | some c => cases c <;> cases b <;> rfl
theorem cn_take {b : Bool} {l : List Bool} {a : Nat} (h : a ≤ l.length) : cn b (l.take a) (l.take a).length = cn b l a := by
  rw [List.length_take, Nat.min_eq_left h]
  unfold cn
  rw [fr_congr fun i hi => ?_]
  unfold bt
  rw [List.getElem?_take, if_pos hi]
theorem count_bit (l : List Bool) : Txt.count (sb l) "1" = (cn true l l.length : Int) := by
  have e1 : (Str.ofString "1" : Str) = ⟨#[49]⟩ := by decide +kernel
  unfold Txt.count
  rw [e1, StrLaws.occ_eq, occ_one (sb l) 49 ((sb l).length + 1) ((sb l).length + 1 - 0) 0 (#[], 0) (Nat.le_refl _) (by show 0 + ((sb l).length + 1 - 0) ≤ _; omega)]
  congr 1
  show (([] : List Nat) ++ (List.range' 0 ((sb l).length + 1 - 0)).filter _).length = (fr (bt true l) l.length).length
  rw [List.nil_append, Nat.sub_zero, sb_len, ← List.range_eq_range', List.range_succ, List.filter_append]
  have h0 : (sb l).cps.toList = l.map bc := rfl
  rw [h0]
  have h1 : List.filter (fun j => (l.map bc)[j]? == some 49) [l.length] = [] := by
    rw [List.filter_cons, List.getElem?_eq_none (by rw [List.length_map]; exact Nat.le_refl _)]
    rfl
  rw [h1, List.append_nil]
  congr 1
  refine List.filter_congr fun i hi => ?_
  unfold bt
  rw [List.getElem?_map]
  cases l[i]? with
  | none => rfl
  | some b => cases b <;> rfl
end Tw

set_option maxHeartbeats 4000000
namespace Tw
open PySem PySem.Spec PyProof.Rows L2 LamX
/-! ### sorted(texts), any number of them -/
def LeS (a b : Str) : Prop := a.cps.toList ≤ b.cps.toList
theorem LeS.trans {a b c : Str} (h1 : LeS a b) (h2 : LeS b c) : LeS a c := List.le_trans h1 h2
theorem LeS.asym {a b : Str} (h1 : LeS a b) (h2 : LeS b a) : a = b := by
  have e := List.le_antisymm h1 h2
  cases a
  cases b
  exact congrArg Str.mk (Array.toList_inj.mp e)
theorem ris_le : ∀ (l : List Str) (p : Str), risingS p l = true → (p :: l).Pairwise LeS
  | [], p, _ => List.pairwise_singleton _ _
  | x :: r, p, h => by
    have h' : (!ltCps x.cps.toList p.cps.toList && risingS x r) = true := h
    rw [Bool.and_eq_true, ltCps_eq] at h'
    obtain ⟨h1, h2⟩ := h'
    have h1 : LeS p x := by
      intro z
      rw [decide_eq_true z] at h1
      cases h1
    have ih := ris_le r x h2
    refine List.pairwise_cons.mpr ⟨fun y hy => ?_, ih⟩
    rcases List.mem_cons.mp hy with rfl | hy
    · exact h1
    · exact h1.trans ((List.pairwise_cons.mp ih).1 y hy)
theorem sorted_le {l : List Str} (h : sortedS l = true) : l.Pairwise LeS := by
  cases l with
  | nil => exact .nil
  | cons x r => exact ris_le r x h
theorem sorted_one {l m : List Str} (h1 : sortedS l = true) (h2 : m.Pairwise LeS) (p : l.Perm m) : l = m :=
  List.Perm.eq_of_pairwise (fun a b _ _ x y => x.asym y) (sorted_le h1) h2 p
def rSortS (K : PySem.W.Frag) : List V → Hp → VK → Prop := fun vs H Q => ∃ (a : Addr) (xs : List Str), vs = [V.ref a] ∧ SqL K H a (xs.map V.str) ∧
  ∀ (ys : List Str) (p : Addr), ys.Perm xs → sortedS ys = true → H p = none → Q (.ref p) (upd H p (.lst (ys.map V.str)))
theorem cr_sortS {X : Cx} : CallR X (.builtin "sorted") (rSortS X.K) := by
  intro pins st σ H args us Q I ra hyp
  obtain ⟨a, xs, rfl, hs, fin⟩ := hyp
  obtain ⟨its, rv, hl, hz⟩ := I.list hs
  rw [Vals.ref1 ra]
  have n0 := rv.length
  have fit : its.length ≤ sizeLine := by rw [← n0]; exact hz
  refine PyProof.Rows.sorted_strsAny hl.isList rv.strs fit fun out ys h1 h2 h3 => ?_
  obtain ⟨ep, at2⟩ := PyProof.Rows.sortedAll_at st.heap its out
  have fits : (ys.map V.str).length ≤ sizeLine := by
    rw [List.length_map, h2.length_eq]
    rw [List.length_map] at hz
    exact hz
  exact ⟨.ref _, _, I.laid (o := .lst (ys.map V.str)) (t' := st.toks) (fun _ _ => PyProof.Rows.sortedAll_old) (Nat.le_succ _) ⟨fits, _, ep, vals_of_strs h1, at2⟩, rfl, fin _ _ h2 h3 (I.hok.fresh (Nat.le_succ _))⟩
theorem cr_sortSK {X : Cx} {K : PySem.W.Frag} (eK : X.K = K) : CallR X (.builtin "sorted") (rSortS K) := by subst eK; exact cr_sortS
theorem op_ltS {X : Cx} : OpR X (compareOp .Lt) (fun x y H Q => ∃ i j, x = .str i ∧ y = .str j ∧ Q (.bl (decide (i.cps.toList < j.cps.toList))) H) := op_lt_str
end Tw

set_option maxHeartbeats 4000000
namespace Tw
/-! ### words by levels -/
abbrev Wd := List Bool
def bk (k : Nat) (x : Wd) : Bool := x.getD k false
def rowW (W : List Wd) : Nat → List Wd
  | 0 => W
  | k + 1 => (rowW W k).filter (fun x => bk k x == false) ++ (rowW W k).filter (fun x => bk k x == true)
def rowB (W : List Wd) (k : Nat) : List Bool := (rowW W k).map (bk k)
def gnn (r : List Bool) (p : Nat) (b : Bool) : Nat := if b then cn false r r.length + cn true r p else cn false r p
/-- a place followed k levels along a word -/
def pp (W : List Wd) (x : Wd) (p : Nat) : Nat → Nat
  | 0 => p
  | k + 1 => gnn (rowB W k) (pp W x p k) (bk k x)
def same (k : Nat) (x y : Wd) : Bool := y.take k == x.take k
theorem filt_two {α : Type} (f : α → Bool) : ∀ l : List α, (l.filter (fun x => f x == false)).length + (l.filter (fun x => f x == true)).length = l.length
  | [] => rfl
  | a :: l => by
    have ih := filt_two f l
    cases h : f a
    · rw [List.filter_cons_of_pos (by rw [h]; rfl), List.filter_cons_of_neg (by rw [h]; decide), List.length_cons, List.length_cons]
      omega
    · rw [List.filter_cons_of_neg (by rw [h]; decide), List.filter_cons_of_pos (by rw [h]; rfl), List.length_cons, List.length_cons]
      omega
theorem rowW_succ (W : List Wd) (k : Nat) : rowW W (k + 1) = (rowW W k).filter (fun x => bk k x == false) ++ (rowW W k).filter (fun x => bk k x == true) := rfl
theorem rowW_len (W : List Wd) : ∀ k, (rowW W k).length = W.length
  | 0 => rfl
  | k + 1 => by
    rw [rowW_succ, List.length_append, filt_two (bk k), rowW_len W k]
theorem rowB_len (W : List Wd) (k : Nat) : (rowB W k).length = W.length := by
  unfold rowB
  rw [List.length_map, rowW_len]
theorem rowW_mem (W : List Wd) : ∀ (k : Nat) (x : Wd), x ∈ rowW W k ↔ x ∈ W
  | 0, x => Iff.rfl
  | k + 1, x => by
    rw [rowW_succ, List.mem_append, List.mem_filter, List.mem_filter, ← rowW_mem W k x]
    constructor
    · rintro (h | h) <;> exact h.1
    · intro h
      cases e : bk k x
      · exact .inl ⟨h, rfl⟩
      · exact .inr ⟨h, rfl⟩
theorem take_bk {k : Nat} {y : Wd} (h : k < y.length) : y.take (k + 1) = y.take k ++ [bk k y] := by
  rw [List.take_add_one, List.getElem?_eq_getElem h]
  unfold bk
  rw [List.getD_eq_getElem?_getD, List.getElem?_eq_getElem h]
  rfl
theorem same_succ {k : Nat} {x y : Wd} (hx : k < x.length) (hy : k < y.length) : same (k + 1) x y = (same k x y && (bk k y == bk k x)) := by
  unfold same
  rw [take_bk hx, take_bk hy, Bool.eq_iff_iff, beq_iff_eq, Bool.and_eq_true, beq_iff_eq, beq_iff_eq]
  constructor
  · intro h
    have l : (y.take k).length = (x.take k).length := by rw [List.length_take, List.length_take]; omega
    obtain ⟨h1, h2⟩ := List.append_inj h l
    exact ⟨h1, by simpa using h2⟩
  · rintro ⟨h1, h2⟩
    rw [h1, h2]
theorem count_map {α : Type} (f : α → Bool) (b : Bool) : ∀ l : List α, (l.map f).count b = (l.filter (fun y => f y == b)).length
  | [] => rfl
  | a :: l => by
    rw [List.map_cons, List.count_cons, count_map f b l, List.filter_cons]
    cases h : (f a == b)
    · rfl
    · rfl
theorem cn_cut {b : Bool} {r : List Bool} {q : Nat} (h : q ≤ r.length) : cn b r q = (r.take q).count b := by
  rw [← cn_take h, cn_all]
theorem filter_same {W : List Wd} {k : Nat} {x : Wd} {b : Bool} (hx : k < x.length) (hW : ∀ y ∈ W, k < y.length) (hb : bk k x = b) : (W.filter (same k x)).filter (fun y => bk k y == b) = W.filter (same (k + 1) x) := by
  rw [List.filter_filter]
  refine List.filter_congr fun y hy => ?_
  rw [same_succ hx (hW y hy), hb, Bool.and_comm]
theorem pp_congr {W : List Wd} {x y : Wd} {p : Nat} : ∀ {k : Nat}, (∀ i, i < k → bk i x = bk i y) → pp W x p k = pp W y p k
  | 0, _ => rfl
  | k + 1, h => by
    show gnn (rowB W k) (pp W x p k) (bk k x) = gnn (rowB W k) (pp W y p k) (bk k y)
    rw [pp_congr fun i hi => h i (by omega), h k (by omega)]
theorem bk_app {u v : Wd} {i : Nat} (h : i < u.length) : bk i (u ++ v) = bk i u := by
  unfold bk
  rw [List.getD_eq_getElem?_getD, List.getD_eq_getElem?_getD, List.getElem?_append_left h]
theorem bk_end (u : Wd) (b : Bool) : bk u.length (u ++ [b]) = b := by
  unfold bk
  rw [List.getD_eq_getElem?_getD, List.getElem?_append_right (Nat.le_refl _), Nat.sub_self]
  rfl
theorem pp_snoc (W : List Wd) (u : Wd) (b : Bool) (p : Nat) : pp W (u ++ [b]) p (u.length + 1) = gnn (rowB W u.length) (pp W u p u.length) b := by
  show gnn _ (pp W (u ++ [b]) p u.length) (bk u.length (u ++ [b])) = _
  rw [bk_end, pp_congr fun i hi => bk_app hi]
/-- a block: those that share k bits with x stand together, in their order -/
structure Blk (W : List Wd) (x : Wd) (k : Nat) (A C : List Wd) : Prop where
  row : rowW W k = A ++ (W.filter (same k x) ++ C)
  at_ : ∀ p, p ≤ W.length → pp W x p k = A.length + ((W.take p).filter (same k x)).length
theorem Blk.split {W : List Wd} {x : Wd} {k : Nat} (p : Nat) : W.filter (same k x) = (W.take p).filter (same k x) ++ (W.drop p).filter (same k x) := by rw [← List.filter_append, List.take_append_drop]
theorem Blk.le {W : List Wd} {x : Wd} {k : Nat} {A C : List Wd} (B : Blk W x k A C) {p : Nat} (hp : p ≤ W.length) : pp W x p k ≤ W.length := by
  rw [B.at_ p hp, ← rowW_len W k, B.row, Blk.split (W := W) p, List.length_append, List.length_append, List.length_append]
  omega
theorem Blk.cnt {W : List Wd} {x : Wd} {k : Nat} {A C : List Wd} (B : Blk W x k A C) (b : Bool) {p : Nat} (hp : p ≤ W.length) :
    cn b (rowB W k) (pp W x p k) = (A.filter (fun y => bk k y == b)).length + (((W.take p).filter (same k x)).filter (fun y => bk k y == b)).length := by
  rw [cn_cut (by rw [rowB_len]; exact B.le hp)]
  unfold rowB
  rw [B.row, B.at_ p hp, ← List.map_take, List.take_length_add_append, Blk.split (W := W) p, List.append_assoc, List.take_left, List.map_append, List.count_append, count_map, count_map]
theorem blk {W : List Wd} {x : Wd} {w : Nat} (hW : ∀ y ∈ W, y.length = w) : ∀ k, k ≤ x.length → k ≤ w → ∃ A C, Blk W x k A C
  | 0, _, _ => by
    have e : ∀ V : List Wd, V.filter (same 0 x) = V := fun V => List.filter_eq_self.mpr fun _ _ => rfl
    refine ⟨[], [], ?_, fun p hp => ?_⟩
    · rw [e, List.append_nil]
      rfl
    · rw [e, List.length_take]
      show p = 0 + _
      omega
  | k + 1, hk, hkw => by
    obtain ⟨A, C, B⟩ := blk (x := x) hW k (by omega) (by omega)
    have hW' : ∀ y ∈ W, k < y.length := fun y hy => by rw [hW y hy]; omega
    have hx' : k < x.length := by omega
    have tot : cn false (rowB W k) (rowB W k).length = ((rowW W k).filter (fun y => bk k y == false)).length := by
      rw [cn_all]
      unfold rowB
      rw [count_map]
    have both : ∀ b, (rowW W k).filter (fun y => bk k y == b) = A.filter (fun y => bk k y == b) ++ ((W.filter (same k x)).filter (fun y => bk k y == b) ++ C.filter (fun y => bk k y == b)) := fun b => by
      rw [B.row, List.filter_append, List.filter_append]
    have wp : ∀ p, ∀ y ∈ W.take p, k < y.length := fun p y hy => hW' y (List.mem_of_mem_take hy)
    cases hb : bk k x with
    | false =>
      refine ⟨A.filter (fun y => bk k y == false), C.filter (fun y => bk k y == false) ++ (rowW W k).filter (fun y => bk k y == true), ?_, fun p hpl => ?_⟩
      · rw [rowW_succ, both false, filter_same hx' hW' hb, List.append_assoc, List.append_assoc]
      · show gnn (rowB W k) (pp W x p k) (bk k x) = _
        rw [hb]
        show cn false (rowB W k) (pp W x p k) = _
        rw [B.cnt false hpl, filter_same hx' (wp p) hb]
    | true =>
      refine ⟨(rowW W k).filter (fun y => bk k y == false) ++ A.filter (fun y => bk k y == true), C.filter (fun y => bk k y == true), ?_, fun p hpl => ?_⟩
      · rw [rowW_succ, both true, filter_same hx' hW' hb, List.append_assoc]
      · show gnn (rowB W k) (pp W x p k) (bk k x) = _
        rw [hb]
        show cn false (rowB W k) (rowB W k).length + cn true (rowB W k) (pp W x p k) = _
        rw [tot, B.cnt true hpl, filter_same hx' (wp p) hb, List.length_append]
        omega
/-- the words of a span -/
def spanW {α : Type} (W : List α) (f e : Nat) : List α := (W.take e).drop f
theorem take_span {α : Type} {W : List α} {f e : Nat} (h : f ≤ e) : W.take e = W.take f ++ spanW W f e := by
  unfold spanW
  have := List.take_append_drop f (W.take e)
  rw [List.take_take, Nat.min_eq_left h] at this
  exact this.symm
theorem Blk.span {W : List Wd} {x : Wd} {k : Nat} {A C : List Wd} (B : Blk W x k A C) (b : Bool) {f e : Nat} (h : f ≤ e) (he : e ≤ W.length) :
    cn b (rowB W k) (pp W x e k) = cn b (rowB W k) (pp W x f k) + (((spanW W f e).filter (same k x)).filter (fun y => bk k y == b)).length := by
  rw [B.cnt b he, B.cnt b (by omega), take_span h, List.filter_append, List.filter_append, List.length_append]
  omega
/-! ### less, by words -/
theorem vb_same : ∀ (n : Nat) (u v : Wd), u.length = n → v.length = n → vb u = vb v → u = v
  | 0, u, v, hu, hv, _ => by rw [List.eq_nil_of_length_eq_zero hu, List.eq_nil_of_length_eq_zero hv]
  | n + 1, u, v, hu, hv, h => by
    obtain ⟨u, a, rfl⟩ := SrtO.snoc_of (l := u) (by omega)
    obtain ⟨v, b, rfl⟩ := SrtO.snoc_of (l := v) (by omega)
    rw [List.length_append, List.length_singleton] at hu hv
    rw [vb_snoc, vb_snoc] at h
    have ab : a = b := by cases a <;> cases b <;> simp at h ⊢ <;> omega
    subst ab
    rw [vb_same n u v (by omega) (by omega) (by omega)]
def lessC (k : Nat) (v : Wd) (E : List Wd) : Nat := E.countP fun y => decide (vb (y.take k) < vb v)
theorem two_filt {α : Type} (P Q : α → Bool) (E : List α) : ((E.filter P).filter Q).length = E.countP fun y => Q y && P y := by
  rw [List.filter_filter, List.countP_eq_length_filter]
theorem lessC_step {k : Nat} {v : Wd} {b : Bool} (hv : v.length = k) : ∀ {E : List Wd}, (∀ y ∈ E, k < y.length) →
    lessC (k + 1) (v ++ [b]) E = lessC k v E + if b = true then ((E.filter (same k v)).filter (fun y => bk k y == false)).length else 0
  | [], _ => by cases b <;> rfl
  | y :: E, h => by
    have ih := lessC_step (b := b) hv (E := E) fun z hz => h z (List.mem_cons_of_mem _ hz)
    have hy := h y (List.mem_cons_self ..)
    have tl : (y.take k).length = k := by rw [List.length_take]; omega
    have vk : v.take k = v := List.take_of_length_le (by omega)
    have sm : same k v y = true ↔ vb (y.take k) = vb v := by
      unfold same
      rw [vk, beq_iff_eq]
      exact ⟨fun e => by rw [e], fun e => vb_same k _ _ tl hv e⟩
    have key : (if vb (y.take (k + 1)) < vb (v ++ [b]) then 1 else 0) = (if vb (y.take k) < vb v then 1 else 0) + (if b = true then (if bk k y = false ∧ vb (y.take k) = vb v then 1 else 0) else 0) := by
      rw [take_bk hy, vb_snoc, vb_snoc]
      generalize vb (y.take k) = m
      generalize vb v = n
      cases b <;> cases bk k y <;> simp only [Bool.toNat_false, Bool.toNat_true, Bool.false_eq_true, Bool.true_eq_false, if_true, if_false, true_and, false_and, Nat.add_zero] <;> (repeat' split) <;> omega
    have e3 : ((bk k y == false) && same k v y) = true ↔ bk k y = false ∧ vb (y.take k) = vb v := by
      rw [Bool.and_eq_true, beq_iff_eq, sm]
    rw [two_filt] at ih ⊢
    unfold lessC at ih ⊢
    rw [List.countP_cons, List.countP_cons, List.countP_cons, ih]
    simp only [decide_eq_true_eq, e3]
    rw [key]
    cases b
    · simp only [Bool.false_eq_true, if_false]
      omega
    · simp only [if_true]
      omega
/-! ### a text's words -/
def inL (cs : List Nat) (c : Nat) : Bool := decide (c ∈ cs)
def ltr (cs : List Nat) : List Nat := fr (inL cs) 128
def ixc (cs : List Nat) (c : Nat) : Nat := (fr (inL cs) c).length
def wdt (cs : List Nat) : Nat := nd ((ltr cs).length - 1)
def wo (cs : List Nat) (c : Nat) : Wd := bn (ixc cs c) (wdt cs)
def wos (cs : List Nat) : List Wd := cs.map (wo cs)
section
variable {cs : List Nat} {c s : Nat}
theorem inL_iff : inL cs c = true ↔ c ∈ cs := decide_eq_true_iff
theorem ltr_get (h : c ∈ cs) (hc : c < 128) : (ltr cs)[ixc cs c]? = some c := fr_get hc (inL_iff.mpr h)
theorem ltr_mem : c ∈ ltr cs ↔ c < 128 ∧ c ∈ cs := by
  unfold ltr
  rw [fr_mem, inL_iff]
theorem ixc_lt (h : c ∈ cs) (hc : c < 128) : ixc cs c < (ltr cs).length := (List.getElem?_eq_some_iff.mp (ltr_get h hc)).1
theorem ixc_less (h : c ∈ cs) : ixc cs c < ixc cs s ↔ c < s := by
  constructor
  · intro z
    by_cases q : c < s
    · exact q
    · exact absurd (fr_mono (f := inL cs) (show s ≤ c by omega)) (by unfold ixc at z; omega)
  · intro z
    have h1 : (fr (inL cs) (c + 1)).length = (fr (inL cs) c).length + if inL cs c = true then 1 else 0 := fr_len_succ
    rw [if_pos (inL_iff.mpr h)] at h1
    have h2 := fr_mono (f := inL cs) (show c + 1 ≤ s by omega)
    unfold ixc
    omega
theorem ixc_inj (h : c ∈ cs) (h2 : s ∈ cs) (e : ixc cs c = ixc cs s) : c = s := by
  have h1 := ixc_less (s := s) h
  have h3 := ixc_less (s := c) h2
  rw [e] at h1 h3
  have : ¬ ixc cs s < ixc cs s := Nat.lt_irrefl _
  omega
theorem wo_len : (wo cs c).length = wdt cs := bn_len _ _
theorem ix_small {n : Nat} (h : n < (ltr cs).length) : n < 2 ^ wdt cs := by
  have : n ≤ (ltr cs).length - 1 := by omega
  exact Nat.lt_of_le_of_lt this ((nd_le _ _).mp (Nat.le_refl _))
theorem wo_vb (h : c ∈ cs) (hc : c < 128) : vb (wo cs c) = ixc cs c := bn_vb_lt (ix_small (ixc_lt h hc))
theorem wo_inj (h : c ∈ cs) (hc : c < 128) (h2 : s ∈ cs) (hs : s < 128) : wo cs c = wo cs s ↔ c = s := by
  constructor
  · intro e
    have := congrArg vb e
    rw [wo_vb h hc, wo_vb h2 hs] at this
    exact ixc_inj h h2 this
  · exact fun e => by rw [e]
theorem wos_len : ∀ y ∈ wos cs, y.length = wdt cs := fun y hy => by
  obtain ⟨c, _, rfl⟩ := List.mem_map.mp hy
  exact wo_len
end
end Tw

set_option maxHeartbeats 4000000
namespace Tw
open PySem PySem.Spec PyProof.Rows L2 LamX
/-! ### zip(list, text) -/
def ItzS (K : PySem.W.Frag) (a : Addr) (x : Str) : It :=
  ⟨fun i H => ∃ (xs : List V) (v : V), SqL K H a xs ∧ xs[i]? = some v ∧ i < x.cps.size,
    fun i H y H' => ∃ (T : Addr) (v : V) (c : Nat), y = .ref T ∧ H T = none ∧ H' = upd H T (.tup [v, .str ⟨#[c]⟩]) ∧ x.cps[i]? = some c ∧ ∀ xs, SqL K H a xs → xs[i]? = some v,
    fun i H => ∃ xs : List V, SqL K H a xs ∧ i ≤ xs.length ∧ i ≤ x.cps.size ∧ (i = xs.length ∨ i = x.cps.size)⟩
theorem sep {a i : Nat} (h : a < i) : ZipSep2 (i + 4) (i + 2) (i + 3) i (i + 1) [i, a] [i + 1] := by
  refine ⟨?_, ?_, ?_, ?_, ?_, ?_, ?_, ?_, ?_, ?_, ?_, ?_, ?_⟩
  all_goals first
    | (show (_ : Nat) ≠ _; omega)
    | (exact List.mem_cons_self ..)
    | (intro z; rcases List.mem_cons.mp z with z | z
       · have z : (_ : Nat) = _ := z
         omega
       · rcases List.mem_cons.mp z with z | z
         · have z : (_ : Nat) = _ := z
           omega
         · cases z)
    | (intro z; have z : (_ : Nat) = _ := List.mem_singleton.mp z; omega)
theorem turn_zipS {P : Program} {w : World} {K : PySem.W.Frag} {elts : List Expr} {kk : Nat} {tpos : Pos} {a z TI TO i1 i2 : Addr} (x : Str) (t : Tok) (D : ZipSep2 z TI TO i1 i2 [i1, a] [i2]) :
    Turn P w K (.Tuple elts kk tpos) (ItzS K a x) [z, TI, TO, i1, i2] z (fun i h => IsZip h z TI TO .none ∧ IsTupOf2 h TI (.ref i1) (.ref i2) ∧ (∃ u v, IsTupOf2 h TO u v) ∧ h.IsListIter i1 a i ∧ h.IsStrIter i2 (strIterType x) x t i) where
  mem := by simp
  obj := fun i h st c hc => by
    obtain ⟨s1, s2, ⟨u, v, s3⟩, ⟨o1, e1, _, d1⟩, ⟨o2, e2, _, d2⟩⟩ := st
    have hc : c = z ∨ c = TI ∨ c = TO ∨ c = i1 ∨ c = i2 := by simpa using hc
    rcases hc with q | q | q | q | q <;> rw [q]
    · exact ⟨_, s1, fun y r => nomatch r⟩
    · exact ⟨_, s2, fun y r => nomatch r⟩
    · exact ⟨_, s3, fun y r => nomatch r⟩
    · exact ⟨o1, e1, fun y r => by rw [d1] at r; cases r⟩
    · exact ⟨o2, e2, fun y r => by rw [d2] at r; cases r⟩
  keep := fun i h h' st k => by
    obtain ⟨s1, s2, ⟨u, v, s3⟩, s4, ⟨o, ho, r⟩⟩ := st
    exact ⟨k z (by simp) _ s1, k TI (by simp) _ s2, ⟨u, v, k TO (by simp) _ s3⟩, s4.at fun o q => k i1 (by simp) o q, ⟨o, k i2 (by simp) o ho, r⟩⟩
  item := by
    intro X hP hw hK hc i pins s σ H E I hf st hg
    subst hP hw hK
    obtain ⟨s1, s2, ⟨u0, v0, s3⟩, s4, s5⟩ := st
    obtain ⟨xs, v, hq, hv, hi⟩ := hg
    obtain ⟨its, rv, pl, _⟩ := I.list hq
    obtain ⟨y, hy, ry⟩ := rv.get hv
    have zl : z < s.heap.objs.size := Heap.lt_size s1
    have quiet : X.A.in1.handled = none := I.ok.hd hc
    have ne : a ≠ i1 := fun e => by
      have m : i1 ∈ [i2] ∨ True := .inr trivial
      obtain ⟨o, ho, hcl, _⟩ := pl.isList
      obtain ⟨o1, e1, c1, _⟩ := s4
      rw [e] at ho
      rw [ho] at e1
      cases e1
      rw [hcl] at c1
      exact absurd (Value.type.inj c1) (by decide)
    have D1 := Draws.list (prog := X.prog) (w := X.w) (A := X.A.in1) quiet i1 a ne its.toArray
    have D2 := draws_text (P := X.prog) (w := X.w) (A := X.A.in1) quiet i2 x t
    have lv : i < its.toArray.size := by
      rw [List.size_toArray]
      exact (List.getElem?_eq_some_iff.mp hy).1
    refine wpAny_pyNext_zipD2_item D D1 D2 s1 s2 s3 ⟨s4, pl.isList⟩ s5 lv hi fun x1 x2 hp tk p1 p2 z1 t1 n1 n2 new sz kp => ?_
    obtain ⟨c, tu, hcx, rfl⟩ := p2
    have e1 : x1 = y := by
      have p1 : its.toArray[i]? = some x1 := p1
      rw [List.getElem?_toArray, hy] at p1
      exact (Option.some.inj p1).symm
    subst e1
    refine ⟨_, rfl, wpAny_letOwnedTupleGo_zip (s := { s with heap := hp, toks := tk }) z1 fun hp2 z2 same => ?_⟩
    have fresh : hp2.get? s.heap.objs.size = some { cls := .type "tuple", data := .seq #[x1, .str ⟨#[c]⟩ tu] } := (same.2 _ (Nat.ne_of_gt zl)).trans new
    have ok : ObjOk X.prog X.w (upd H s.heap.objs.size (.tup [v, .str ⟨#[c]⟩])) hp2 s.heap.objs.size (.tup [v, .str ⟨#[c]⟩]) :=
      ⟨by show 2 ≤ sizeLine; decide, [x1, .str ⟨#[c]⟩ tu], .cons ry (.cons ⟨_, rfl⟩ .nil), ⟨_, fresh, rfl, _, rfl⟩⟩
    have J : Inv X pins σ (upd H s.heap.objs.size (.tup [v, .str ⟨#[c]⟩])) { s with heap := hp2, toks := tk } :=
      I.turnedNew (ch := [z, TI, TO, i1, i2]) (fun b o hb q => (same.2 b (fun e => hb (by simp [e]))).trans (kp b o (fun e => hb (by simp [e])) (fun e => hb (by simp [e])) (fun e => hb (by simp [e])) (fun e => hb (by simp [e])) q)) hf (Nat.le_refl _) ok
    refine ⟨.ref s.heap.objs.size, _, J, rfl, ⟨_, v, c, rfl, I.hok.fresh (Nat.le_refl _), rfl, hcx, fun l hl => by rw [I.list_inj hl hq]; exact hv⟩, ⟨z2, ?_, ⟨x1, .str ⟨#[c]⟩ tu, ?_⟩, ?_, ?_⟩, fun b hb => ?_⟩
    · exact (same.2 _ D.TIz).trans (kp _ _ D.TIz D.TITO D.TIi1 D.TIi2 s2)
    · exact (same.2 _ D.TOz).trans t1
    · exact n1.1.at fun o q => (same.2 _ (Ne.symm D.zi1)).trans q
    · obtain ⟨o, q, r⟩ := n2
      exact ⟨o, (same.2 _ (Ne.symm D.zi2)).trans q, r⟩
    · have lt : b < s.heap.objs.size := by
        have hb : b = z ∨ b = TI ∨ b = TO ∨ b = i1 ∨ b = i2 := by simpa using hb
        rcases hb with q | q | q | q | q <;> rw [q]
        · exact zl
        · exact Heap.lt_size s2
        · exact Heap.lt_size s3
        · obtain ⟨_, e1, _⟩ := s4
          exact Heap.lt_size e1
        · obtain ⟨_, e2, _⟩ := s5
          exact Heap.lt_size e2
      rw [upd_ne (Nat.ne_of_lt lt)]
      exact (hf b hb).1
  done := by
    intro X hP hw hK hc i pins s σ H E I hf st hg
    subst hP hw hK
    obtain ⟨s1, s2, ⟨u0, v0, s3⟩, s4, s5⟩ := st
    obtain ⟨xs, hq, h1, h2, h3⟩ := hg
    obtain ⟨its, rv, pl, _⟩ := I.list hq
    have lv := rv.length
    have quiet : X.A.in1.handled = none := I.ok.hd hc
    have ne : a ≠ i1 := fun e => by
      obtain ⟨o, ho, hcl, _⟩ := pl.isList
      obtain ⟨o1, e1, c1, _⟩ := s4
      rw [e] at ho
      rw [ho] at e1
      cases e1
      rw [hcl] at c1
      exact absurd (Value.type.inj c1) (by decide)
    have D1 := Draws.list (prog := X.prog) (w := X.w) (A := X.A.in1) quiet i1 a ne its.toArray
    have D2 := draws_text (P := X.prog) (w := X.w) (A := X.A.in1) quiet i2 x t
    have sz : its.toArray.size = xs.length := by rw [List.size_toArray]; omega
    exact wpAny_pyNext_zipD2_end D D1 D2 s1 s2 s3 ⟨s4, pl.isList⟩ s5 (by rw [sz]; exact h1) h2 (by rw [sz]; exact h3) fun hp tk kp => ⟨rfl, I.turnedL (t' := tk) (ch := [z, TI, TO, i1, i2]) (fun c o hb q =>
      kp c o (fun e => hb (by simp [e])) (fun e => hb (by simp [e])) (fun e => hb (by simp [e])) (fun e => hb (by simp [e])) q) hf⟩
  self := fun A i s Q E st h => wpAny_pyIter_zip st.1 h
def iZipS (K : PySem.W.Frag) (ta : TA) : TI := fun σ H R => ta σ H fun vs H1 => ∃ (a : Addr) (x : Str) (xs : List V), vs = [.ref a, .str x] ∧ SqL K H1 a xs ∧ R (ItzS K a x) H1
theorem pi_zipSK {X : Cx} {K : PySem.W.Frag} (eK : X.K = K) {e e2 : Expr} {ta : TA} {p pos tpos : Pos} {elts : List Expr} {kk : Nat} (hg : Gl X "zip") (hm : X.mg "zip" = none) (ha : PA X [e, e2] ta)
    (hs : starEach [e, e2] X.env = (false, eval e X.env) :: starEach [e2] X.env) (hpl : (backTo pos (starEach [e2] X.env)).any (·.1) = false) :
    PI X (.Tuple elts kk tpos) (.Call (.Name "zip" p) [e, e2] [] pos) (iZipS K ta) := by
  subst eK
  refine ⟨fun pins s σ H R I h => Call_ (ld_blt I hg hm PyProof.Rows.boot_zip (PyProof.Rows.callWith_type1 (thn (ha.run pos pins s σ H _ I h) fun us s1 ⟨vs, H1, I1, r1, q1⟩ => ?_) hs hpl))⟩
  obtain ⟨a, x, xs, rfl, hq, q⟩ := q1
  obtain ⟨u1, u2, rfl, r1, r2⟩ := vals2 r1
  cases r1
  obtain ⟨t, rfl⟩ := r2
  obtain ⟨its, rv, pl, _⟩ := I1.list hq
  refine zip_begins2 (begins_list a its.toArray) (begins_text x t) pl.isList trivial fun hp s1' s2 s3 s4 s5 sz kp => wpAny_pyIter_zip s1' ?_
  have J : Inv X pins σ H1 { s1 with heap := hp } := I1.kept (t' := s1.toks) kp
  refine ⟨s1.heap.objs.size + 4, [s1.heap.objs.size + 4, s1.heap.objs.size + 2, s1.heap.objs.size + 3, s1.heap.objs.size, s1.heap.objs.size + 1], _, _, H1, rfl, J, turn_zipS x t (sep pl.lt), ⟨s1', s2, ⟨_, _, s3⟩, ⟨_, s4, rfl, rfl⟩, ⟨_, s5, rfl, rfl⟩⟩, fun c hc => ?_, q⟩
  have le : s1.heap.objs.size ≤ c := by
    have hc : c = s1.heap.objs.size + 4 ∨ c = s1.heap.objs.size + 2 ∨ c = s1.heap.objs.size + 3 ∨ c = s1.heap.objs.size ∨ c = s1.heap.objs.size + 1 := by simpa using hc
    rcases hc with z | z | z | z | z <;> rw [z] <;> first | exact Nat.le_add_right _ _ | exact Nat.le_refl _
  exact I1.fpOk le (I1.hok.fresh le)
theorem w_zipS {K : PySem.W.Frag} {a : Addr} {xs : List V} {l : List Nat} (hl : l.length = xs.length) :
    Walk (ItzS K a (S l)) xs.length (fun H => SqL K H a xs) (fun i H y H' => ∃ (T : Addr) (v : V) (c : Nat), y = .ref T ∧ H T = none ∧ H' = upd H T (.tup [v, .str (S [c])]) ∧ l[i]? = some c ∧ xs[i]? = some v) := by
  have lz : (S l).cps.size = l.length := S_len l
  refine ⟨fun i H hi q => ⟨xs, xs[i], q, List.getElem?_eq_getElem hi, by rw [lz, hl]; exact hi⟩, fun H q => ⟨xs, q, Nat.le_refl _, by rw [lz, hl]; exact Nat.le_refl _, .inl rfl⟩, fun i H y H' hi q h => ?_⟩
  obtain ⟨T, v, c, h1, h2, h3, h4, h5⟩ := h
  exact ⟨T, v, c, h1, h2, h3, by simpa [S] using h4, h5 xs q⟩
end Tw

set_option maxHeartbeats 4000000
namespace Tw
open PySem PySem.Spec PyProof.Rows L2 LamX PySem.Froz
/-! ### sorted(set(text)): a text's signs, each once, rising -/
/-- a member more, if new -/
def addM (l : List Str) (k : Str) : List Str := if k ∈ l then l else k :: l
def memM (cs : List Nat) : List Str := cs.foldl (fun l c => addM l (sing c)) []
theorem addM_mem {l : List Str} {k x : Str} : x ∈ addM l k ↔ x ∈ l ∨ x = k := by
  unfold addM
  split
  · next h => exact ⟨.inl, fun z => z.elim id fun e => e ▸ h⟩
  · rw [List.mem_cons]
    exact Or.comm
theorem addM_nd {l : List Str} {k : Str} (h : l.Nodup) : (addM l k).Nodup := by
  unfold addM
  split
  · exact h
  · next hk => exact List.nodup_cons.mpr ⟨hk, h⟩
theorem addM_len (l : List Str) (k : Str) : (addM l k).length ≤ l.length + 1 := by
  unfold addM
  split
  · exact Nat.le_succ _
  · exact Nat.le_refl _
theorem memM_snoc (cs : List Nat) (c : Nat) : memM (cs ++ [c]) = addM (memM cs) (sing c) := by
  unfold memM
  rw [List.foldl_append]
  rfl
theorem memM_all : ∀ (n : Nat) (cs : List Nat), cs.length = n → (memM cs).Nodup ∧ (memM cs).length ≤ n ∧ ∀ x, x ∈ memM cs ↔ ∃ c ∈ cs, x = sing c
  | 0, cs, h => by
    obtain rfl := List.eq_nil_of_length_eq_zero h
    exact ⟨.nil, Nat.le_refl _, fun x => ⟨fun z => (by cases z), fun ⟨c, z, _⟩ => (by cases z)⟩⟩
  | n + 1, cs, h => by
    obtain ⟨ds, c, rfl⟩ := SrtO.snoc_of (l := cs) (by omega)
    rw [List.length_append, List.length_singleton] at h
    obtain ⟨h1, h2, h3⟩ := memM_all n ds (by omega)
    rw [memM_snoc]
    refine ⟨addM_nd h1, Nat.le_trans (addM_len _ _) (by omega), fun x => ?_⟩
    rw [addM_mem, h3]
    constructor
    · rintro (⟨d, hd, e⟩ | e)
      · exact ⟨d, List.mem_append_left _ hd, e⟩
      · exact ⟨c, List.mem_append_right _ (List.mem_singleton.mpr rfl), e⟩
    · rintro ⟨d, hd, e⟩
      rcases List.mem_append.mp hd with hd | hd
      · exact .inl ⟨d, hd, e⟩
      · exact .inr (by rw [e, List.mem_singleton.mp hd])
section
variable {P : Program} {w : World} {A : Around} {E : Value → Shared → Prop} {st : Shared}
/-- the table rises and can be walked -/
def Walkable (w : World) (D : SD) : Prop := Ris D.2.2.place.toList ∧ (w.params.followText "set-order" = true ∨ D.2.2.led = true)
theorem tail_walk {ep : Nat} {es : Array (Int × Value)} {t : SetTable} {b : Bool} (h : Walkable w (es, ep, t)) : Walkable w (tailTx ep es t b) := by
  unfold tailTx
  split
  · exact ⟨relayAll_ris t es _, h.2.imp id fun z => (relayAll_led t es _).trans z⟩
  · exact h
theorem add_walk {D : SD} {hv : Int} {v : Value} (h : Walkable w D) : Walkable w (addTx hv v D) := by
  obtain ⟨es, ep, t⟩ := D
  refine tail_walk ?_
  have r := layNew_ris t es hv v h.1
  have l := layNew_led t es hv v
  have l2 : w.params.followText "set-order" = true ∨ (layNew t es hv v).2.1.led = true := h.2.imp id fun z => l.trans z
  dsimp only
  split
  · exact ⟨r, l2⟩
  · exact ⟨r, l2⟩
/-- the texts l stand in the set at a -/
def HasT (P : Program) (w : World) (hp : Heap) (a : Addr) (l : List Str) : Prop := ∃ D, hp.get? a = some (sObj "set" D) ∧ TxOk P w D l ∧ Walkable w D
theorem HasT.keep {hp hp' : Heap} {a : Addr} {l : List Str} (h : HasT P w hp a l) (k : ∀ o, hp.get? a = some o → hp'.get? a = some o) : HasT P w hp' a l := by
  obtain ⟨D, h1, h2⟩ := h
  exact ⟨D, k _ h1, h2⟩
theorem there {a : Addr} {D : SD} {l : List Str} {k : Str} {u : Tok} {Q : Bool → Shared → Prop} (ho : st.heap.get? a = some (sObj "set" D)) (F : TxOk P w D l) (hk : k ∈ l) (hb : l.length < scanBound) (q : Q false st) :
    wpAny (model P w) A (setAddHashed a (.str k u) (hashStr w k)) Q E st := by
  obtain ⟨es, ep, t⟩ := D
  have hel : ElemsOf (strKind P w) es.toList := F.el
  have hsz : es.size = l.length := F.sz
  have hkey := is_str (P := P) (w := w) k u
  unfold setAddHashed setAddHashedIn
  refine wpAny_holding (wpAny_bind (wpAny_setState_of ho (show (sObj "set" (es, ep, t)).data = .set es ep t from rfl) F.fit ?_))
  dsimp only
  rw [byScan_of (x := Value.str k u) rfl (by rw [hsz]; exact hb) hel]
  simp only [↓reduceIte]
  unfold setAddByScan
  refine wpAny_bind (wpAny_bind (wpAny_rule (wpAny_bind (wpAny_setScan_of (knd := strKind P w) (k := k) hkey ho (show (sObj "set" (es, ep, t)).data = .set es ep t from rfl) F.fit hel ?_))))
  cases hf : List.findIdx? (fun e => (strKind P w).is k e.2) es.toList with
  | some j => exact wpAny_pure (wpAny_pure q)
  | none =>
    obtain ⟨e, he, z⟩ := (F.mem k).mp hk
    have z2 := List.findIdx?_eq_none_iff.mp hf e he
    rw [z] at z2
    cases z2
theorem put1 {a : Addr} {l : List Str} {k : Str} {u : Tok} {Q : Bool → Shared → Prop} (h : HasT P w st.heap a l) (hb : l.length + 1 < scanBound)
    (q : ∀ b hp, Heap.SameBut a st.heap hp → HasT P w hp a (addM l k) → Q b { st with heap := hp }) : wpAny (model P w) A (setAddHashed a (.str k u) (hashStr w k)) Q E st := by
  obtain ⟨D, ho, F, W⟩ := h
  by_cases hk : k ∈ l
  · refine there ho F hk (by omega) ?_
    have e : addM l k = l := if_pos hk
    exact q false st.heap (Heap.SameBut.refl a st.heap) (by rw [e]; exact ⟨D, ho, F, W⟩)
  · refine add_x ho F hk hb ?_
    have e : addM l k = k :: l := if_neg hk
    exact q true _ (Heap.SameBut.update st.heap a _) (by rw [e]; exact ⟨_, get_upd _ ho rfl, add_ok u F, add_walk W⟩)
end
section
variable {P : Program} {w : World} {A : Around} {R : Result → Shared → Prop} {it : Addr} {fp wr : List Addr} {G : Array GenState → Array GenState → Prop} {n : Nat} {St : Nat → Shared → Prop} {x : Str}
/-- the loop: sign by sign -/
theorem upLoop (W : WalksS P w A.in1 it fp wr G n (SignAt x) St) (hn : n = x.cps.size) (a : Addr) (off : a ∉ fp) (hb : n + 1 < scanBound) : ∀ (m i : Nat) (st : Shared), n - i = m → i ≤ n → St i st → HasT P w st.heap a (memM (x.cps.toList.take i)) →
    (∀ s2, Moved (a :: wr) G st s2 → HasT P w s2.heap a (memM x.cps.toList) → R (.ok (.ret .none)) s2) → codeAny (model P w) A (.builtin "set.update.loop" ⟨[.ref a, .ref it], []⟩) R st := by
  have offw : a ∉ wr := fun z => off (W.sub _ z)
  have wider : ∀ b ∈ wr, b ∈ a :: wr := fun b z => .tail _ z
  have lenx : x.cps.toList.length = n := by rw [hn, Array.length_toList]
  intro m
  induction m with
  | zero =>
    intro i st e1 e2 now has fin
    obtain rfl : i = n := by omega
    rw [List.take_of_length_le (Nat.le_of_eq lenx)] at has
    refine codeAny_builtin PyProof.Rows.F.entry_set_update_loop ?_
    rw [Around.under_plainId PyProof.Rows.F.plain_set_update_loop _]
    refine wpAny_bind (m := pyNext (.ref it)) (W.done st _ _ now fun s2 mv => wpAny_pure ?_)
    exact fin s2 (mv.mono wider) (has.keep fun o z => mv.heap a o offw z)
  | succ m ih =>
    intro i st e1 e2 now has fin
    have lt : i < n := by omega
    refine codeAny_builtin PyProof.Rows.F.entry_set_update_loop ?_
    rw [Around.under_plainId PyProof.Rows.F.plain_set_update_loop _]
    refine wpAny_bind (m := pyNext (.ref it)) (W.item i st _ _ lt now fun v s2 hv now2 mv => ?_)
    obtain ⟨c, u, hc, rfl⟩ := hv
    have has := has.keep fun o z => mv.heap a o offw z
    obtain ⟨_, lz, _⟩ := memM_all _ (x.cps.toList.take i) rfl
    rw [List.length_take] at lz
    refine wpAny_bind (m := holding [Value.str ⟨#[c]⟩ u] (setAdd a (.str ⟨#[c]⟩ u))) (wpAny_holding ?_)
    unfold setAdd
    refine wpAny_holding (wpAny_bind ((strKind P w).pyHash (k := sing c) (is_str _ _) ?_))
    refine put1 (st := { s2 with toks := s2.toks + 1 }) has (by omega) fun b hp same has3 => ?_
    have e3 : addM (memM (x.cps.toList.take i)) ⟨#[c]⟩ = memM (x.cps.toList.take (i + 1)) := by
      rw [List.take_add_one, Array.getElem?_toList, hc]
      exact (memM_snoc _ c).symm
    rw [e3] at has3
    refine wpAny_pure ⟨plainId_quiet PyProof.Rows.F.plain_set_update_loop _, ih (i + 1) _ (by omega) lt (W.frame _ s2 _ _ now2 (Nat.le_succ _) fun b2 hb2 o z => ?_) has3 fun s3 mv3 has4 => ?_⟩
    · rw [same.2 b2 fun y => off (y ▸ hb2)]
      exact z
    · refine fin s3 (Moved.trans W.gtrans ((mv.mono wider).then_heap (Nat.le_succ _) fun b2 o hb2 z => ?_) mv3) has4
      rw [same.2 b2 fun y => hb2 (y ▸ List.mem_cons_self)]
      exact z
end
theorem not_set : isSubtype (.type "str") (.type "set") = pure false := by
  rw [isSubtype_type]
  kernel_rfl
theorem not_frozen : isSubtype (.type "str") (.type "frozenset") = pure false := by
  rw [isSubtype_type]
  kernel_rfl
section
variable {P : Program} {w : World} {A : Around} {E : Value → Shared → Prop} {st : Shared}
abbrev bare (w : World) : Obj := { cls := .type "set", dict := none, data := .set #[] 0 (.fresh 0 0 (!w.params.followText "set-order")) }
theorem bare_has (hp : Heap) : HasT P w (hp.push (bare w)) hp.objs.size [] := by
  refine ⟨(#[], 0, .fresh 0 0 (!w.params.followText "set-order")), Heap.get?_push_size (o := bare w) hp rfl, TxOk.nil rfl, List.Pairwise.nil, ?_⟩
  show _ ∨ (!w.params.followText "set-order") = true
  cases w.params.followText "set-order"
  · exact .inr rfl
  · exact .inl rfl
theorem newSet (v : Value) {Q : Value → Shared → Prop} (q : Q (.ref st.heap.objs.size) { st with heap := st.heap.push (bare w) }) :
    codeAny (model P w) A (.call (.builtin "set.__new__") ⟨[.type "set", v], []⟩) (wants Q E) st := by
  refine codeAny_of_tree (show wpAny _ A.in1 (do checkBuiltinCall "set.__new__" ⟨[.type "set", v], []⟩; again (.builtin "set.__new__" ⟨[.type "set", v], []⟩)) _ _ st from ?_)
  refine wpAny_bind (wpAny_of_eq (PySem.F.newCall_set_1 v) (wpAny_pure ⟨plainId_quiet PySem.F.plain_set_new _, codeAny_builtin PySem.F.entry_set_new ?_⟩))
  rw [Around.under_plainId PySem.F.plain_set_new _]
  unfold Builtin.«set.__new__» Builtin.Frozenset.newClass
  have self := sub_set_self
  obtain ⟨hp, g, d, tk, os⟩ := st
  dsimp only
  wp_walk
  refine wpAny_askSetting (wpAny_pure ?_)
  dsimp only
  simp only [newObj]
  exact wpAny_bind (wpAny_alloc (wpAny_pure (wpAny_pure q)))
set_option maxHeartbeats 8000000 in
/-- set(text) -/
theorem make {x : Str} {u : Tok} {Q : Value → Shared → Prop} (hh : A.handled = none) (hb : x.cps.size + 1 < scanBound)
    (q : ∀ (hp : Heap) (tk : Nat), HasT P w hp st.heap.objs.size (memM x.cps.toList) → (∀ b o, b < st.heap.objs.size → st.heap.get? b = some o → hp.get? b = some o) → Q (.ref st.heap.objs.size) { st with heap := hp, toks := tk }) :
    wpAny (model P w) A (call (.type "set") [.str x u]) Q E st := by
  obtain ⟨c, tl, hmro⟩ := PySem.F.called_set.mro
  have hmade := PySem.F.called_set.made
  have hsub := PySem.F.called_set.sub
  refine wpAny_call (codeAny_of_tree (show wpAny _ _ (callAny (.type "set") _) _ _ _ from wpAny_pure ⟨Code.quiet_builtin _ (by decide +kernel), codeAny_builtin PySem.F.entry_type_call ?_⟩))
  rw [Around.under_plain (weight_type_call_type "set" [.str x u] []) rfl]
  have k1 := PySem.F.called_set.notType
  have k2 := PySem.F.called_set.canCreate
  have k3 := PySem.F.typeCall_set_1 (.str x u)
  repeat (any_goals (first | assumption | wp_step))
  refine codeAny_mono (newSet (.str x u) (E := E) (Q := fun v s2 => v = .ref st.heap.objs.size ∧ s2 = { st with heap := st.heap.push (bare w) }) ⟨rfl, rfl⟩) fun r s2 hr => ?_
  cases r with
  | error e => exact hr
  | ok fl =>
    cases fl with
    | ret v =>
      obtain ⟨rfl, rfl⟩ := hr
      have at0 : (st.heap.push (bare w)).get? st.heap.objs.size = some (bare w) := Heap.get?_push_size _ rfl
      have typ : Shared.TypeIs { st with heap := st.heap.push (bare w) } (.ref st.heap.objs.size) "set" := ⟨_, at0, rfl⟩
      have k4 := PySem.F.called_set.init.lookup
      have k5 := PySem.F.called_set.init.bind (.ref st.heap.objs.size)
      repeat (any_goals (first | assumption | wp_step))
      refine codeAny_mono (codeAny_call_builtin (R := wants (fun v s3 => v = .none ∧ ∃ hp tk, s3 = { st with heap := hp, toks := tk } ∧ HasT P w hp st.heap.objs.size (memM x.cps.toList) ∧
          (∀ b o, b < st.heap.objs.size → st.heap.get? b = some o → hp.get? b = some o)) E) PySem.F.called_set.init.plain PySem.F.entry_set_init (check_set_init_1 typ ?_)) fun r3 s3 hr3 => ?_
      · have n1 := not_set
        have n2 := not_frozen
        have n3 : (Value.type "str" == Value.type "dict") = false := by decide
        unfold Builtin.«set.__init__» noKeywords Builtin.Frozenset.updateFrom
        generalize hPI : pyIter = PI
        wp_walk
        subst hPI
        refine wpAny_pyIter_str fun o St W now => wpAny_bind (wpAny_runValue ?_)
        have quiet : A.in1.in1.in1.handled = none := by simp [hh]
        have off : st.heap.objs.size ∉ [(st.heap.push (bare w)).objs.size] := fun z => by
          have z := List.mem_singleton.mp z
          rw [Heap.size_push] at z
          omega
        refine upLoop ((W _ quiet).toS) rfl st.heap.objs.size off hb (x.cps.size - 0) 0 _ (by omega) (Nat.zero_le _) now ((bare_has st.heap).keep fun o z => Heap.get?_push_of_some _ z) fun s4 mv has => ?_
        obtain ⟨hp, g, d, tk, os⟩ := s4
        have eg : g = st.gens := mv.gens
        have ed : d = st.drawn := mv.drawn
        have eo : os = st.os := mv.os
        subst eg ed eo
        refine wpAny_pure (wpAny_pure ⟨rfl, hp, tk, rfl, has, fun b o hb2 z => mv.heap b o (fun y => ?_) (Heap.get?_push_of_some _ (Heap.get?_push_of_some _ z))⟩)
        rcases List.mem_cons.mp y with y | y
        · exact absurd y (Nat.ne_of_lt hb2)
        · have y := List.mem_singleton.mp y
          rw [Heap.size_push] at y
          exact absurd y (Nat.ne_of_lt (Nat.lt_succ_of_lt hb2))
      · cases r3 with
        | error e => exact hr3
        | ok f3 =>
          cases f3 with
          | ret v =>
            obtain ⟨rfl, hp, tk, rfl, has, keep⟩ := hr3
            repeat (any_goals (first | assumption | wp_step))
            exact q _ _ has keep
          | _ => exact hr3.elim
    | _ => exact hr.elim
end
theorem same_all {α : Type} [DecidableEq α] : ∀ {l m : List α}, l.Nodup → (∀ x ∈ l, x ∈ m) → m.length = l.length → l.Perm m
  | [], m, _, _, h => by rw [List.eq_nil_of_length_eq_zero h]
  | k :: r, m, nd, sub, h => by
    obtain ⟨n1, n2⟩ := List.nodup_cons.mp nd
    have hk := sub k (List.mem_cons_self ..)
    have p := List.perm_cons_erase hk
    refine (List.Perm.cons k (same_all n2 (fun x hx => ?_) ?_)).trans p.symm
    · exact (List.mem_erase_of_ne fun z => n1 (by rw [← z]; exact hx)).mpr (sub x (List.mem_cons_of_mem _ hx))
    · rw [List.length_erase_of_mem hk, h]
      rfl
section
variable {P : Program} {w : World} {A : Around} {E : Value → Shared → Prop} {st : Shared}
/-- sorted(set), the set's members texts -/
theorem sortSet {a : Addr} {l : List Str} {Q : Value → Shared → Prop} (has : HasT P w st.heap a l) (nd : l.Nodup) (hh : A.handled = none) (hb : l.length < scanBound)
    (q : ∀ s2 p (out : Array Value) (c : Nat) (ys : List Str), (∀ b o, st.heap.get? b = some o → s2.heap.get? b = some o) → s2.gens = st.gens → s2.os = st.os → st.heap.objs.size ≤ p →
      s2.heap.get? p = some (seqObj "list" out c) → StrsAre out.toList ys → sortedS ys = true → ys.Perm l → Q (.ref p) s2) :
    wpAny (model P w) A (call (.builtin "sorted") [.ref a]) Q E st := by
  obtain ⟨⟨es, ep, t⟩, ho, F, W⟩ := has
  have hsz : es.size = l.length := F.sz
  refine Calls.call_function_entry PyProof.Rows.kind_sorted PyProof.Rows.plain_sorted PyProof.Rows.entry_sorted (PyProof.Rows.args_sorted1 _) ?_
  unfold Builtin.«sorted»
  refine wpAny_bind (m := checkCount "sorted" 1 1 _) (wpAny_pure (wpAny_bind (collect_set (A := A.in1) hh ⟨_, ho, rfl, rfl⟩ F.fit (by rw [hsz]; exact hb) W.1 W.2 fun s1 vs k1 hz g1 o1 pm => ?_)))
  have small : scanBound ≤ sizeLine := by decide
  have hvl : vs.length = l.length := by rw [pm.length_eq, List.length_map, Array.length_toList, hsz]
  have hel : ElemsOf (strKind P w) es.toList := F.el
  have shape : ∀ e ∈ es.toList, ∃ x u, e.2 = Value.str x u := fun e he => by
    obtain ⟨⟨k, hk, _⟩, _⟩ := hel e he
    obtain ⟨u, hu⟩ := Value.isStrOf_shape hk
    exact ⟨k, u, hu⟩
  have hS : StrsAre vs (vs.map strOf) := strsAre_map vs fun v hv => by
    obtain ⟨e, he, rfl⟩ := List.mem_map.mp (pm.mem_iff.mp hv)
    exact shape e he
  have pl : (vs.map strOf).Perm l := by
    refine (pm.map strOf).trans ?_
    rw [List.map_map]
    refine (same_all nd (fun k hk => ?_) (by rw [List.length_map, Array.length_toList, hsz])).symm
    obtain ⟨e, he, z⟩ := (F.mem k).mp hk
    obtain ⟨u, hu⟩ := Value.isStrOf_shape z
    exact List.mem_map.mpr ⟨e, he, by show strOf e.2 = k; rw [hu]; rfl⟩
  have fit : vs.length ≤ sizeLine := Nat.le_trans (by rw [hvl]; exact Nat.le_of_lt hb) small
  refine wpAny_bind (wpAny_newList ?_ fit)
  have at1 : (s1.heap.push (seqObj "list" vs.toArray 0)).get? s1.heap.objs.size = some (seqObj "list" vs.toArray 0) := Heap.get?_push_size _ rfl
  refine wpAny_bind (wpAny_holding (wpAny_call_entry PyProof.Rows.slot_list_sort ⟨_, at1, rfl⟩ PyProof.Rows.entry_list_sort (list_sort_treeKAny PyProof.Rows.strKind_oneLt at1 hS.keysOf (fun v1 v2 r e => keyKind_strs (by rw [← e]; exact hS)) fit fun so h1 h2 => ⟨_, rfl, ?_⟩) (PyProof.Rows.args_list_sort _)))
  obtain ⟨ys, h3, h4, h5⟩ := sorted_out_str hS h1 h2
  obtain ⟨c, at2⟩ := PyProof.Rows.sortedHeap_at (vs := vs) (out := (arrOf so).map (·.2)) at1
  refine wpAny_pure ⟨_, rfl, q _ s1.heap.objs.size _ c ys (fun b o z => ?_) g1 o1 hz at2 h3 h5 (h4.trans pl)⟩
  have lt := Heap.lt_size (k1 b o z)
  show (PyProof.Rows.sortedHeap (s1.heap.push (seqObj "list" vs.toArray 0)) s1.heap.objs.size vs _).get? b = some o
  rw [PyProof.Rows.sortedHeap_old (Nat.ne_of_lt lt) (by rw [size_push']; exact Nat.lt_succ_of_lt lt)]
  exact Heap.get?_push_of_some _ (k1 b o z)
end
/-- sorted(set(e)) -/
def tSortSet (te : TE) : TE := fun σ H Q => te σ H fun x H1 => ∃ z, x = .str z ∧ z.cps.size + 1 < scanBound ∧ ∀ (ys : List Str) (p : Addr), sortedS ys = true → ys.Nodup → (∀ y, y ∈ ys ↔ ∃ c ∈ z.cps.toList, y = ⟨#[c]⟩) → H1 p = none → Q (.ref p) (upd H1 p (.lst (ys.map V.str)))
theorem pe_sortSet {X : Cx} {e : Expr} {te : TE} {p1 p2 pos1 pos2 : Pos} (hc : X.calm = true) (hg : Gl X "sorted") (hm : X.mg "sorted" = none) (hg2 : Gl X "set") (hm2 : X.mg "set" = none) (he : PE X e te)
    (n1 : starEach [e] X.env = (false, eval e X.env) :: starEach [] X.env := by rfl) (n2 : starEach [.Call (.Name "set" p2) [e] [] pos2] X.env = (false, eval (.Call (.Name "set" p2) [e] [] pos2) X.env) :: starEach [] X.env := by rfl) :
    PE X (.Call (.Name "sorted" p1) [.Call (.Name "set" p2) [e] [] pos2] [] pos1) (tSortSet te) := by
  refine ⟨fun pins st σ H Q I h => Call_ (ld_blt I hg hm b_sorted (PyProof.Rows.callWith_builtin1 (PyProof.Rows.args_cons (Call_ (ld_blt I hg2 hm2 b_set
    (PyProof.Rows.callWith_type1 (PyProof.Rows.args_cons (thn (he.run pins st σ H _ I h) fun v s1 ⟨x, H1, I1, r1, q1⟩ => PyProof.Rows.args_nil ?_) n1) n1 rfl))) n2) n2 rfl))⟩
  obtain ⟨z, rfl, hz, q⟩ := q1
  obtain ⟨u, rfl⟩ := r1
  refine make (I1.ok.hd hc) hz fun hp tk has keep => ?_
  have I2 : Inv X pins σ H1 { s1 with heap := hp, toks := tk } := I1.kept fun b o e => keep b o (Heap.lt_size e) e
  obtain ⟨nd, ln, mem⟩ := memM_all _ z.cps.toList rfl
  have lz : z.cps.toList.length = z.cps.size := Array.length_toList
  have few : (memM z.cps.toList).length < scanBound := by omega
  refine PyProof.Rows.args_nil ?_
  refine sortSet (st := { s1 with heap := hp, toks := tk }) has nd (I2.ok.hd hc) few fun s2 p out c ys k g o hpz at2 sy h2 h3 => ?_
  have fit : (ys.map V.str).length ≤ sizeLine := by
    rw [List.length_map, h3.length_eq]
    exact Nat.le_trans (Nat.le_of_lt few) (by decide)
  have free : H1 p = none := I2.hok.fresh hpz
  have J : Inv X pins σ (upd H1 p (.lst (ys.map V.str))) s2 :=
    I2.call' (ch := []) o (Un.laid k hpz free) (I2.hok.laid k hpz ⟨fit, out.toList, c, vals_of_strs sy, at2⟩) (by rw [g]; exact I1.bare) (fun _ y => nomatch y)
  exact ⟨.ref p, _, J, rfl, q ys p h2 (h3.nodup_iff.mpr nd) (fun y => by rw [h3.mem_iff]; exact mem y) free⟩
end Tw

set_option maxHeartbeats 4000000
namespace Tw
open PySem PySem.Spec PyProof.Rows L2 LamX
/-! ### a <= b <= c <= d -/
def tChain3 (r r2 r3 : R2) (ta tb tc td : TE) : TE := fun σ H Q => ta σ H fun x H1 => tb σ H1 fun y H2 => r x y H2 fun z H3 => ∃ k, z = .bl k ∧
  (if k = true then tc σ H3 fun u H4 => r2 y u H4 fun z2 H5 => ∃ k2, z2 = .bl k2 ∧ (if k2 = true then td σ H5 fun v H6 => r3 u v H6 Q else Q (.bl false) H5) else Q (.bl false) H3)
theorem pe_chain3 {X : Cx} {o1 o2 o3 : CmpOp} {r r2 r3 : R2} {a b c d : Expr} {ta tb tc td : TE} {pos : Pos} (h1 : OpR X (compareOp o1) r) (h2 : OpR X (compareOp o2) r2) (h3 : OpR X (compareOp o3) r3) (ha : PE X a ta) (hb : PE X b tb) (hc : PE X c tc) (hd : PE X d td)
    (hm : lastMarks [o1, o2, o3] [b, c, d] = false := by with_unfolding_all rfl) : PE X (.Compare a [o1, o2, o3] [b, c, d] pos) (tChain3 r r2 r3 ta tb tc td) := by
  refine ⟨fun pins st σ H Q I h => Compare_chain (thn (ha.run pins st σ H _ I h) fun v s1 ⟨x, H1, I1, q1, w1⟩ => chain_link (thn (hb.run pins s1 σ H1 _ I1 w1) fun u s2 ⟨y, H2, I2, q2, w2⟩ =>
    thn (h1 pins s2 σ H2 x y v u _ I2 q1 q2 w2) fun t s3 ⟨z, H3, I3, q3, k, e, w3⟩ => ?_)) hm⟩
  subst e
  cases q3
  refine wpAny_truthy_bool ?_
  cases k with
  | false => exact ite_ff ⟨.bl false, H3, I3, rfl, w3⟩
  | true =>
    refine ite_tt (chain_link (thn (hc.run pins s3 σ H3 _ I3 w3) fun v2 s4 ⟨x2, H4, I4, q4, w4⟩ => thn (h2 pins s4 σ H4 y x2 u v2 _ I4 q2 q4 w4) fun t2 s5 ⟨z2, H5, I5, q5, k2, e2, w5⟩ => ?_))
    subst e2
    cases q5
    refine wpAny_truthy_bool ?_
    cases k2 with
    | false => exact ite_ff ⟨.bl false, H5, I5, rfl, w5⟩
    | true => exact ite_tt (chain_last (thn (hd.run pins s5 σ H5 _ I5 w5) fun v3 s6 ⟨x3, H6, I6, q6, w6⟩ => h3 pins s6 σ H6 x2 x3 v2 v3 Q I6 q4 q6 w6))
/-! ### the first place of a sign -/
open StrLaws Builtin Builtin.Str in
theorem occ_full (x : Str) (c : Nat) : ∀ (k i : Nat) (st : Array Nat × Nat), 1 ≤ st.1.size → (forIn (List.range' i k) st (occBody x ⟨#[c]⟩ x.length 1)).run.fst = st.1
  | 0, i, st, _ => by simp
  | k + 1, i, st, h => by
    rw [List.range'_succ, List.forIn_cons]
    unfold occBody
    rw [if_neg (fun z => absurd z.1.1.1 (by omega))]
    exact occ_full x c k (i + 1) (st.fst, st.snd) h
open StrLaws Builtin Builtin.Str in
theorem occ_first (x : Str) (c j : Nat) (hj : x.cps.toList[j]? = some c) : ∀ (k i f : Nat), f ≤ i → i ≤ j → j < i + k → (∀ m, i ≤ m → m < j → x.cps.toList[m]? ≠ some c) →
    (forIn (List.range' i k) ((#[], f) : Array Nat × Nat) (occBody x ⟨#[c]⟩ x.length 1)).run.fst = #[j]
  | 0, i, f, _, h1, h2, _ => absurd h2 (by omega)
  | k + 1, i, f, hf, h1, h2, h3 => by
    rw [List.range'_succ, List.forIn_cons]
    unfold occBody
    by_cases e : i = j
    · subst e
      have hs := (subAt_one x c i).mpr hj
      rw [if_pos ⟨⟨⟨Nat.zero_lt_one, hf⟩, hs.1⟩, hs.2⟩]
      exact occ_full x c k (i + 1) (#[].push i, i + (⟨#[c]⟩ : Str).length) (Nat.le_refl 1)
    · rw [if_neg (fun z => h3 i (Nat.le_refl _) (by omega) ((subAt_one x c i).mp ⟨z.1.2, z.2⟩))]
      exact occ_first x c j hj k (i + 1) f (by omega) (by omega) (by omega) fun m hm => h3 m (by omega)
theorem idx_S {l : List Nat} {c i : Nat} (h : l[i]? = some c) (h0 : ∀ j, j < i → l[j]? ≠ some c) : Builtin.Str.occurrences (S l) (S [c]) 0 (S l).length 1 = [i] := by
  have hi : i < l.length := (List.getElem?_eq_some_iff.mp h).1
  have e : S [c] = ⟨#[c]⟩ := rfl
  rw [e, StrLaws.occ_eq]
  have z := occ_first (S l) c i (by simpa [S] using h) ((S l).length + 1 - 0) 0 0 (Nat.le_refl _) (Nat.zero_le _) (by rw [S_len]; omega) (fun m _ hm => by simpa [S] using h0 m hm)
  rw [z]
/-! ### list(text) -/
def rListS : List V → Hp → VK → Prop := fun xs H Q => ∃ l : List Nat, xs = [.str (S l)] ∧ l.length ≤ 100000 ∧ ∀ p, H p = none → Q (.ref p) (upd H p (.lst (l.map fun c => V.str (S [c]))))
theorem call_list_txt {X : Cx} (hc : X.calm = true) : CallR X (.type "list") rListS := by
  intro pins st σ H xs us Q I r h
  obtain ⟨l, rfl, hl, q⟩ := h
  obtain ⟨u, rfl, t, rfl⟩ := vals1 r
  have sz : (S l).cps.size = l.length := S_len l
  have fit : l.length ≤ sizeLine := Nat.le_trans hl (by decide)
  refine call_list_str (I.ok.hd hc) (S l) t (hn := by rw [sz]; exact fit) fun hp tk acc c k e hi => ?_
  have vs : Vals (l.map fun c => V.str (S [c])) acc.toList := by
    have n : acc.toList.length = l.length := by rw [Array.length_toList]; exact hi.1.trans sz
    refine vals_of_at (by rw [List.length_map, n]) fun j x u hx hu => ?_
    rw [List.getElem?_map] at hx
    obtain ⟨d, hd, rfl⟩ := Option.map_eq_some_iff.mp hx
    obtain ⟨d2, w, h1, rfl⟩ := hi.2 j u (by rw [← hu, Array.getElem?_toList])
    have h1 : l[j]? = some d2 := by simpa [S] using h1
    rw [hd] at h1
    cases h1
    exact ⟨w, rfl⟩
  exact ⟨.ref st.heap.objs.size, _, I.laid (o := .lst (l.map fun c => V.str (S [c]))) k (Nat.le_refl _) ⟨by rw [List.length_map]; exact fit, acc.toList, c, vs, by rw [Array.toArray_toList]; exact e⟩, rfl, q _ (I.hok.fresh (Nat.le_refl _))⟩
end Tw

set_option maxHeartbeats 4000000
namespace Tw
open PySem PyProof.Rows
/-! ### signs by their codes -/
def sg (c : Nat) : Str := S [c]
theorem sg_inj {a b : Nat} (h : sg a = sg b) : a = b := (List.cons.inj (S_inj h)).1
theorem sg_le {a b : Nat} : LeS (sg a) (sg b) ↔ a ≤ b := by
  show ([a] : List Nat) ≤ [b] ↔ _
  constructor
  · intro h
    by_cases z : b < a
    · exact absurd (List.cons_lt_cons_iff.mpr (.inl z)) h
    · omega
  · intro h z
    rcases List.cons_lt_cons_iff.mp z with z | ⟨_, z⟩
    · omega
    · exact absurd z (by simp)
theorem ltr_lt (cs : List Nat) : (ltr cs).Pairwise (· < ·) := by
  unfold ltr fr
  exact List.Pairwise.filter _ List.pairwise_lt_range
theorem letters_are {cs : List Nat} (hc : ∀ c ∈ cs, c < 128) {ys : List Str} (s : sortedS ys = true) (nd : ys.Nodup) (m : ∀ y, y ∈ ys ↔ ∃ c ∈ cs, y = ⟨#[c]⟩) : ys = (ltr cs).map sg := by
  have nd2 : ((ltr cs).map sg).Nodup := List.pairwise_map.mpr ((ltr_lt cs).imp fun h z => absurd (sg_inj z) (Nat.ne_of_lt h))
  refine sorted_one s (List.pairwise_map.mpr ((ltr_lt cs).imp fun h => sg_le.mpr (Nat.le_of_lt h))) ((List.perm_ext_iff_of_nodup nd nd2).mpr fun y => ?_)
  rw [m, List.mem_map]
  constructor
  · rintro ⟨c, h, e⟩
    exact ⟨c, ltr_mem.mpr ⟨hc c h, h⟩, e.symm⟩
  · rintro ⟨c, h, e⟩
    exact ⟨c, (ltr_mem.mp h).2, e.symm⟩
theorem sorted_signs {E : List Nat} {ys : List Str} (p : ys.Perm (E.map sg)) (s : sortedS ys = true) : ∃ zs : List Nat, ys = zs.map sg ∧ zs.Perm E ∧ zs.Pairwise (· ≤ ·) := by
  have hd : ∀ y ∈ ys, sg (y.cps.toList.headD 0) = y := fun y hy => by
    obtain ⟨c, _, rfl⟩ := List.mem_map.mp (p.mem_iff.mp hy)
    rfl
  have e : ys = (ys.map fun y => y.cps.toList.headD 0).map sg := by
    rw [List.map_map]
    conv => lhs; rw [← List.map_id ys]
    exact List.map_congr_left fun y hy => (hd y hy).symm
  refine ⟨ys.map fun y => y.cps.toList.headD 0, e, ?_, ?_⟩
  · have q := p.map fun y : Str => y.cps.toList.headD 0
    rw [List.map_map] at q
    have i : (fun y : Str => y.cps.toList.headD 0) ∘ sg = id := rfl
    rw [i, List.map_id] at q
    exact q
  · have q := sorted_le s
    rw [e] at q
    exact (List.pairwise_map.mp q).imp fun h => sg_le.mp h
/-- the j-th of the sorted -/
def Nth (E : List Nat) (j c : Nat) : Prop := E.countP (fun d => decide (d < c)) ≤ j ∧ j < E.countP (fun d => decide (d ≤ c))
theorem nth_one {E : List Nat} {j c d : Nat} (h : Nth E j c) (h2 : Nth E j d) : c = d := by
  have step : ∀ a b, a < b → E.countP (fun d => decide (d ≤ a)) ≤ E.countP (fun d => decide (d < b)) := fun a b ab => List.countP_mono_left fun x _ z => by
    rw [decide_eq_true_eq] at z ⊢
    omega
  rcases Nat.lt_trichotomy c d with z | z | z
  · have := step c d z
    have := h.2
    have := h2.1
    omega
  · exact z
  · have := step d c z
    have := h2.2
    have := h.1
    omega
theorem nth_sorted : ∀ {zs : List Nat} {j c : Nat}, zs.Pairwise (· ≤ ·) → zs[j]? = some c → Nth zs j c
  | [], _, _, _, h => by simp at h
  | z :: zs, 0, c, hp, h => by
    have e : z = c := by simpa using h
    subst e
    obtain ⟨h1, h2⟩ := List.pairwise_cons.mp hp
    refine ⟨?_, ?_⟩
    · rw [List.countP_eq_zero.mpr]
      · exact Nat.le_refl _
      · intro a ha
        rw [decide_eq_true_eq]
        rcases List.mem_cons.mp ha with rfl | ha
        · omega
        · have := h1 a ha
          omega
    · rw [List.countP_cons, if_pos (decide_eq_true (Nat.le_refl _))]
      omega
  | z :: zs, j + 1, c, hp, h => by
    obtain ⟨h1, h2⟩ := List.pairwise_cons.mp hp
    have ih := nth_sorted h2 (show zs[j]? = some c from h)
    have zc := h1 c (List.mem_of_getElem? (show zs[j]? = some c from h))
    refine ⟨?_, ?_⟩
    · rw [List.countP_cons]
      have := ih.1
      split <;> omega
    · rw [List.countP_cons, if_pos (decide_eq_true zc)]
      have := ih.2
      omega
theorem nth_perm {E F : List Nat} {j c : Nat} (p : E.Perm F) (h : Nth E j c) : Nth F j c := by
  unfold Nth at h ⊢
  rw [← p.countP_eq, ← p.countP_eq]
  exact h
theorem span_map {α β : Type} (g : α → β) (l : List α) (f e : Nat) : spanW (l.map g) f e = (spanW l f e).map g := by
  unfold spanW
  rw [← List.map_take, ← List.map_drop]
theorem span_mem {α : Type} {l : List α} {f e : Nat} {x : α} (h : x ∈ spanW l f e) : x ∈ l := List.mem_of_mem_take (List.mem_of_mem_drop h)
section
variable {cs : List Nat}
/-- how many of a span are less, by words -/
theorem less_words (hc : ∀ c ∈ cs, c < 128) {f e s : Nat} {v : Wd} (hv : v.length = wdt cs) (hs : vb v = ixc cs s) : lessC (wdt cs) v (spanW (wos cs) f e) = (spanW cs f e).countP fun d => decide (d < s) := by
  unfold lessC wos
  rw [span_map, List.countP_map]
  refine List.countP_congr fun d hd => ?_
  have hd := span_mem hd
  show decide (vb ((wo cs d).take (wdt cs)) < vb v) = true ↔ _
  rw [List.take_of_length_le (Nat.le_of_eq wo_len), wo_vb hd (hc d hd), hs, decide_eq_true_eq, decide_eq_true_eq, ixc_less hd]
theorem same_words (hc : ∀ c ∈ cs, c < 128) {f e s : Nat} (hs : s ∈ cs) : ((spanW (wos cs) f e).filter (same (wdt cs) (wo cs s))).length = (spanW cs f e).countP fun d => decide (d = s) := by
  rw [← List.countP_eq_length_filter]
  unfold wos
  rw [span_map, List.countP_map]
  refine List.countP_congr fun d hd => ?_
  have hd := span_mem hd
  show ((wo cs d).take (wdt cs) == (wo cs s).take (wdt cs)) = true ↔ _
  rw [List.take_of_length_le (Nat.le_of_eq wo_len), List.take_of_length_le (Nat.le_of_eq wo_len), beq_iff_eq, wo_inj hd (hc d hd) hs (hc s hs), decide_eq_true_eq]
theorem count_le (E : List Nat) (s : Nat) : E.countP (fun d => decide (d ≤ s)) = E.countP (fun d => decide (d < s)) + E.countP (fun d => decide (d = s)) := by
  induction E with
  | nil => rfl
  | cons x E ih =>
    rw [List.countP_cons, List.countP_cons, List.countP_cons, ih]
    simp only [decide_eq_true_eq]
    (repeat' split) <;> omega
/-- the word found by ranks is the word of the sign that stands there -/
theorem ranked_word (hc : ∀ c ∈ cs, c < 128) {f e j n : Nat} {v : Wd} (hv : v.length = wdt cs) (hn : n < ((spanW (wos cs) f e).filter (same (wdt cs) v)).length) (hj : n + lessC (wdt cs) v (spanW (wos cs) f e) = j) :
    ∃ c, c ∈ cs ∧ v = wo cs c ∧ Nth (spanW cs f e) j c := by
  obtain ⟨y, hy⟩ := List.exists_mem_of_length_pos (show 0 < ((spanW (wos cs) f e).filter (same (wdt cs) v)).length by omega)
  obtain ⟨hy1, hy2⟩ := List.mem_filter.mp hy
  obtain ⟨c, hcm, rfl⟩ := List.mem_map.mp (span_mem hy1)
  have ev : v = wo cs c := by
    unfold same at hy2
    rw [List.take_of_length_le (Nat.le_of_eq wo_len), List.take_of_length_le (Nat.le_of_eq hv), beq_iff_eq] at hy2
    exact hy2.symm
  subst ev
  refine ⟨c, hcm, rfl, ?_⟩
  rw [less_words hc hv (wo_vb hcm (hc c hcm))] at hj
  rw [same_words hc hcm] at hn
  unfold Nth
  rw [count_le]
  omega
end
open L2 in
theorem kept_gen {α : Type} (d : α) (g : α → Bool) (h : α → V) : ∀ L : List α, kept L.length (fun i => g (L.getD i d)) (fun i => h (L.getD i d)) = (L.filter g).map h := by
  intro L
  unfold kept
  have e : L = (List.range L.length).map fun i => L.getD i d := by
    refine List.ext_getElem? fun i => ?_
    rw [List.getElem?_map]
    by_cases hi : i < L.length
    · rw [List.getElem?_range hi, List.getElem?_eq_getElem hi]
      show _ = some (L.getD i d)
      rw [List.getD_eq_getElem?_getD, List.getElem?_eq_getElem hi]
      rfl
    · rw [List.getElem?_eq_none (by omega), List.getElem?_eq_none (by rw [List.length_range]; omega)]
      rfl
  conv => rhs; rw [e]
  rw [List.filter_map, List.map_map]
  rfl
/-- a sign that may stand in a text -/
def okSg (c : Nat) : Bool := decide (32 ≤ c) && decide (c ≤ 126) && decide (c ≠ 37)
theorem okSg_iff {c : Nat} : okSg c = true ↔ 32 ≤ c ∧ c ≤ 126 ∧ c ≠ 37 := by
  unfold okSg
  rw [Bool.and_eq_true, Bool.and_eq_true, decide_eq_true_eq, decide_eq_true_eq, decide_eq_true_eq, and_assoc]
def goodT (l : List Nat) : Prop := l.length ≤ 512 ∧ ∀ c ∈ l, okSg c = true
theorem goodT.lt {l : List Nat} (h : goodT l) : ∀ c ∈ l, c < 128 := fun c hc => by
  have := okSg_iff.mp (h.2 c hc)
  omega
theorem ltr_len (l : List Nat) : (ltr l).length ≤ 128 := fr_le
theorem wdt_le (l : List Nat) : wdt l ≤ 8 := (nd_le _ _).mpr (Nat.lt_of_le_of_lt (show (ltr l).length - 1 ≤ 128 by have := ltr_len l; omega) (by decide))
theorem ix_first {l : List Nat} {c : Nat} (h : c ∈ l) (hc : c < 128) : Builtin.Str.occurrences (S (ltr l)) (S [c]) 0 (S (ltr l)).length 1 = [ixc l c] := by
  refine idx_S (ltr_get h hc) fun j hj z => ?_
  have h1 := List.pairwise_iff_getElem.mp (ltr_lt l) j (ixc l c) (List.getElem?_eq_some_iff.mp z).1 (ixc_lt h hc) hj
  rw [(List.getElem?_eq_some_iff.mp z).2, (List.getElem?_eq_some_iff.mp (ltr_get h hc)).2] at h1
  exact Nat.lt_irrefl _ h1
theorem flat1 {α : Type} : ∀ s : List α, (s.map fun b => [b]).flatten = s
  | [] => rfl
  | a :: s => by rw [List.map_cons, List.flatten_cons, flat1 s]; rfl
open L2 in
theorem sgn_dec (a b : Bool) : decide (V.str ⟨#[bc a]⟩ = V.str (sb [b])) = (a == b) := by
  have h : (V.str ⟨#[bc a]⟩ = V.str (sb [b])) ↔ a = b := by
    constructor
    · intro h
      injection h with h
      have h2 : sb [a] = sb [b] := h
      exact (List.cons.inj (sb_inj h2)).1
    · intro h
      rw [h]
      rfl
  rw [Bool.eq_iff_iff, decide_eq_true_eq, beq_iff_eq]
  exact h
theorem snoc_get {α : Type} {l : List α} {x y : α} {j : Nat} (h : (l ++ [x])[j]? = some y) : l[j]? = some y ∨ (j = l.length ∧ y = x) := by
  by_cases hj : j < l.length
  · rw [List.getElem?_append_left hj] at h
    exact .inl h
  · rw [List.getElem?_append_right (by omega)] at h
    cases hk : j - l.length with
    | zero =>
      rw [hk] at h
      exact .inr ⟨by omega, (Option.some.inj h).symm⟩
    | succ k =>
      rw [hk] at h
      cases h
end Tw

set_option maxHeartbeats 4000000
namespace Tw
open PySem PyProof.Rows
/-! ### a word by its place, places back -/
section
variable {W A C : List Wd} {x : Wd} {k p : Nat}
theorem Blk.get (B : Blk W x k A C) (h : W[p]? = some x) : (rowW W k)[pp W x p k]? = some x := by
  have hp : p < W.length := (List.getElem?_eq_some_iff.mp h).1
  have e : W.drop p = x :: W.drop (p + 1) := by
    rw [List.drop_eq_getElem_cons hp, (List.getElem?_eq_some_iff.mp h).2]
  rw [B.at_ p (by omega), B.row, List.getElem?_append_right (by omega), Nat.add_sub_cancel_left, Blk.split (W := W) p, List.append_assoc, List.getElem?_append_right (Nat.le_refl _), Nat.sub_self, e,
    List.filter_cons_of_pos (show same k x x = true by unfold same; exact beq_self_eq_true _)]
  rfl
theorem Blk.bit (B : Blk W x k A C) (h : W[p]? = some x) : (rowB W k)[pp W x p k]? = some (bk k x) := by
  unfold rowB
  rw [List.getElem?_map, B.get h]
  rfl
theorem Blk.zero (B : Blk W x k A C) : pp W x 0 k = A.length := by
  rw [B.at_ 0 (Nat.zero_le _)]
  simp
theorem Blk.diff (B : Blk W x k A C) (hp : p ≤ W.length) : pp W x p k = pp W x 0 k + ((W.take p).filter (same k x)).length := by rw [B.zero, B.at_ p hp]
end
/-! ### where a sign stands -/
def occ (l : List Nat) (s : Nat) : List Nat := fr (fun i => l[i]? == some s) l.length
theorem occ_pre {l : List Nat} {s : Nat} : ∀ {p : Nat}, p ≤ l.length → (fr (fun i => l[i]? == some s) p).length = (l.take p).count s
  | 0, _ => by simp [fr]
  | p + 1, h => by
    rw [fr_len_succ, occ_pre (p := p) (by omega), List.take_add_one, List.getElem?_eq_getElem (show p < l.length by omega), List.count_append]
    congr 1
    show _ = [l[p]].count s
    rw [List.count_singleton, Bool.beq_eq_decide_eq]
    by_cases e : l[p] = s
    · rw [e]
      simp
    · simp [e]
theorem occ_len (l : List Nat) (s : Nat) : (occ l s).length = l.count s := by
  have := occ_pre (l := l) (s := s) (Nat.le_refl _)
  rw [List.take_length] at this
  exact this
theorem occ_at {l : List Nat} {s n p : Nat} (h : (occ l s)[n]? = some p) : l[p]? = some s ∧ (l.take p).count s = n := by
  have hm := fr_mem.mp (List.mem_of_getElem? h)
  have hs : l[p]? = some s := beq_iff_eq.mp hm.2
  refine ⟨hs, ?_⟩
  rw [← occ_pre (Nat.le_of_lt hm.1)]
  have h2 : (occ l s)[(fr (fun i => l[i]? == some s) p).length]? = some p := fr_get hm.1 hm.2
  have nd : (occ l s).Pairwise (· < ·) := by
    unfold occ fr
    exact List.Pairwise.filter _ List.pairwise_lt_range
  have a1 := List.getElem?_eq_some_iff.mp h
  have a2 := List.getElem?_eq_some_iff.mp h2
  obtain ⟨b1, e1⟩ := a1
  obtain ⟨b2, e2⟩ := a2
  have q := List.pairwise_iff_getElem.mp nd
  rcases Nat.lt_trichotomy n (fr (fun i => l[i]? == some s) p).length with z | z | z
  · have := q n _ b1 b2 z
    omega
  · exact z.symm
  · have := q _ n b2 b1 z
    omega
section
variable {cs : List Nat} {s p : Nat}
theorem words_count (hc : ∀ c ∈ cs, c < 128) (hs : s ∈ cs) : (((wos cs).take p).filter (same (wdt cs) (wo cs s))).length = (cs.take p).count s := by
  have h := same_words (cs := cs) hc (f := 0) (e := p) hs
  unfold spanW at h
  rw [List.drop_zero, List.drop_zero] at h
  rw [h, List.count_eq_countP]
  refine List.countP_congr fun d _ => ?_
  rw [decide_eq_true_eq, beq_iff_eq]
theorem wos_at (h : cs[p]? = some s) : (wos cs)[p]? = some (wo cs s) := by
  unfold wos
  rw [List.getElem?_map, h]
  rfl
end
theorem cut_tail {l : List Nat} {n : Nat} : (l.drop n).head? = l[n]? := by
  rw [List.head?_drop]
/-- how often a sign stands in a text -/
theorem count_S (l : List Nat) (c : Nat) : Txt.count (S l) (S [c]) = (l.count c : Int) := by
  have e1 : S [c] = ⟨#[c]⟩ := rfl
  unfold Txt.count
  rw [e1, StrLaws.occ_eq, occ_one (S l) c ((S l).length + 1) ((S l).length + 1 - 0) 0 (#[], 0) (Nat.le_refl _) (by show 0 + ((S l).length + 1 - 0) ≤ _; omega)]
  congr 1
  rw [← occ_len]
  show (([] : List Nat) ++ (List.range' 0 ((S l).length + 1 - 0)).filter _).length = (fr (fun i => l[i]? == some c) l.length).length
  rw [List.nil_append, Nat.sub_zero, S_len, ← List.range_eq_range', List.range_succ, List.filter_append]
  have h0 : (S l).cps.toList = l := rfl
  rw [h0]
  have h1 : List.filter (fun j => l[j]? == some c) [l.length] = [] := by
    rw [List.filter_cons, List.getElem?_eq_none (Nat.le_refl _)]
    rfl
  rw [h1, List.append_nil]
  rfl
end Tw

set_option maxHeartbeats 4000000
namespace Tw
open PySem PySem.Spec PyProof.Rows L2 LamX
/-! ### sorted(list, key=lambda x: x // y % 2), y a name of the def around -/
/-- the lambda's scope: x its own, y captured -/
structure KeyS (sc scope : Scope) (x y : Str) : Prop where
  kind : scope.kind = .function
  co : scope.isCoroutine = false
  gen : scope.isGenerator = false
  nocell : ∀ z ∈ scope.names, z.2 ≠ .cell
  lx : scope.names.lookup x = some .local
  ly : scope.names.lookup y = some .free
  free : ∀ z ∈ scope.names, z.2 = .free → sc.names.lookup z.1 = some .cell ∨ sc.names.lookup z.1 = some .free
def keySB (sc scope : Scope) (x y : Str) : Bool :=
  decide (scope.kind = .function) && (!scope.isCoroutine && (!scope.isGenerator && (decide (scope.names.lookup x = some .local) && (decide (scope.names.lookup y = some .free) &&
    scope.names.all fun z => !decide (z.2 = .cell) && (!decide (z.2 = .free) || decide (sc.names.lookup z.1 = some .cell) || decide (sc.names.lookup z.1 = some .free))))))
theorem keyS_by {sc scope : Scope} {x y : Str} (h : keySB sc scope x y = true) : KeyS sc scope x y := by
  unfold keySB at h
  simp only [Bool.and_eq_true, Bool.or_eq_true, Bool.not_eq_true', decide_eq_true_eq, decide_eq_false_iff_not, List.all_eq_true] at h
  obtain ⟨h1, h2, h3, h4, h5, h6⟩ := h
  refine ⟨h1, h2, h3, fun z hz => (h6 z hz).1, h4, h5, fun z hz e => ?_⟩
  rcases (h6 z hz).2 with (q | q) | q
  · exact absurd e q
  · exact .inl q
  · exact .inr q
def keyLe (d : Int) (a b : Int) : Bool := decide (a / d % 2 ≤ b / d % 2)
def tSortBit (K : PySem.W.Frag) (T : List (Addr × Str)) (iy : Nat) (te : TE) : TE := fun σ H Q => te σ H fun v H1 => ∃ (a : Addr) (ns : List Int) (d : Int), v = .ref a ∧ SqL K H1 a (ns.map .int) ∧ ns.length ≤ 100000 ∧ σ[iy]? = some (some (.int d)) ∧ 0 < d ∧ d < 1073741824 ∧ Tabs T H1 ∧
  ∀ H2 p, ExtN H1 H2 → Tabs T H2 → H2 p = none → Q (.ref p) (upd H2 p (.lst ((ns.mergeSort (keyLe d)).map .int)))
theorem each_ints {us : List Value} {ns : List Int} (h : IntsAre us ns) : PySem.W.EachIs (fun v n => ∃ t, v = Value.int n t) us ns := by
  induction h with
  | nil => exact .nil
  | cons n t _ ih => exact .cons ⟨t, rfl⟩ ih
theorem ints_of_each {us : List Value} {ns : List Int} (h : PySem.W.EachIs (fun v n => ∃ t, v = Value.int n t) us ns) : IntsAre us ns := by
  induction h with
  | nil => exact .nil
  | cons e _ ih =>
    obtain ⟨t, rfl⟩ := e
    exact .cons _ t ih
theorem isCell_keep {h h' : Heap} {c : Addr} {v : Option Value} (kp : ∀ b o, h.get? b = some o → h'.get? b = some o) (q : h.IsCell c v) : h'.IsCell c v := by
  obtain ⟨o, ho, hd⟩ := q
  exact ⟨o, kp _ _ ho, hd⟩
/-- the lambda called -/
theorem key_call {prog : Program} {w : World} {A : Around} {s : Shared} {f c' cy : Addr} {q x y : Str} {params : Arguments} {scope : Scope} {cl : List (Str × Addr)} {pm ctv : Value} {d n : Int} {t u : Tok} {j : Nat} {p1 p2 p3 p4 p5 : Pos} {sc : Scope}
    (L : KeyS sc scope x y) (hdep : A.depth < recursionLimit) (lim : s.heap.NoLimit)
    (hf : s.heap.get? f = some (PySem.W.kla_obj "<lambda>" q params (.BinOp (.BinOp (.Name x p1) .FloorDiv (.Name y p2) p3) .Mod (.Constant (.int 2) j p4) p5) scope cl pm c' ctv)) (hcode : s.heap.CodeRec (.ref c') q)
    (hbind : bindArgs (PySem.W.kla_fn "<lambda>" q params (.BinOp (.BinOp (.Name x p1) .FloorDiv (.Name y p2) p3) .Mod (.Constant (.int 2) j p4) p5) scope cl pm (.ref c') ctv) ⟨[.int n t], []⟩ = pure [(x, .int n t)])
    (hcl : cl.lookup y = some cy) (hcy : s.heap.IsCell cy (some (.int d u))) (hd : 0 < d) (hd2 : d < 1073741824) (hx1 : (x == ("__debug__" : Str)) = false) (hy1 : (y == ("__debug__" : Str)) = false) (hy2 : (y == ("__classdict__" : Str)) = false) :
    wpAny (model prog w) A (call (.ref f) [.int n t]) (PySem.W.KeyPure (.int (n / d % 2)) s) (fun _ _ => False) s := by
  refine wpAny_call ?_
  refine PySem.W.kla_callFunE hdep hf rfl L.co L.gen rfl hcode ?_
  rw [hbind]
  refine wpAny_pure (wpAny_newFunctionEnv (fun z hz => L.nocell z hz) (fun z hz => by rw [List.mem_singleton.mp hz]; exact L.lx) (fun h₁ hns hsb => ⟨lim.fresh _ hsb, ?_⟩) L.kind)
  have kp : ∀ b o, s.heap.get? b = some o → h₁.get? b = some o := fun b o e => hsb.extBut b o (Nat.ne_of_lt (Heap.lt_size e)) (Heap.get?_push_of_some _ e)
  refine PySem.W.kla_codeExpr ?_
  refine wpAny_BinOp (wpAny_BinOp (wpAny_Name (wpAny_loadName_local (v := .int n t) L.kind L.lx hns (by simp [List.lookup]) ?_) hx1))
  refine wpAny_Name (wpAny_loadName_free (v := .int d u) L.kind L.ly hcl (isCell_keep kp hcy) ?_ hy2) hy1
  refine floordiv_int (by omega) ?_ (.inl (PyProof.noPylong_small (by omega)))
  refine wpAny_Constant_int ?_
  refine mod_int' (by decide) ?_
  refine ⟨h₁, _, rfl, kp, ?_⟩
  rw [Int.fdiv_eq_ediv_of_nonneg n (by omega), Int.fmod_eq_emod_of_nonneg _ (by decide)]
  exact .int _ _
section
variable {X : Cx}
theorem pe_sortBit {K : PySem.W.Frag} (eK : X.K = K) {T : List (Addr × Str)} {c P : Addr} {x y : Str} {e : Expr} {te : TE} {params : Arguments} {scope : Scope} {iy j k : Nat} {ps p1 p2 p3 p4 p5 lpos kpos pos : Pos} (hg : Gl X "sorted") (hm : X.mg "sorted" = none) (he : PE X e te)
    (TB : TabB X.base X.mg c P) (hcode : X.env.code = .ref c) (hmT : (P, X.env.qual ++ "<lambda>") ∈ T) (hu : ∀ p ∈ T, p.1 = P → p.2 = X.env.qual ++ "<lambda>") (hr : Room (k + 1) X.A) (L : KeyS X.env.scope scope x y) (hdef : defaultsOf params X.env = ([], []))
    (hN : X.N[iy]? = some y)
    (hbind : ∀ (q : Str) (cl : List (Str × Addr)) (pm cv ctv v : Value), bindArgs (PySem.W.kla_fn "<lambda>" q params (.BinOp (.BinOp (.Name x p1) .FloorDiv (.Name y p2) p3) .Mod (.Constant (.int 2) j p4) p5) scope cl pm cv ctv) ⟨[v], []⟩ = pure [(x, v)])
    (hx1 : (x == ("__debug__" : Str)) = false) (hy1 : (y == ("__debug__" : Str)) = false) (hy2 : (y == ("__classdict__" : Str)) = false)
    (hev : backTo pos (starEach [e] X.env) = [(false, eval e X.env)]) :
    PE X (.Call (.Name "sorted" ps) [e] [⟨some (Str.ofString "key"), .Lambda params (.BinOp (.BinOp (.Name x p1) .FloorDiv (.Name y p2) p3) .Mod (.Constant (.int 2) j p4) p5) scope lpos, kpos⟩] pos) (tSortBit K T iy te) := by
  subst eK
  refine ⟨fun pins s σ H Q I h => ?_⟩
  refine wpAny_Call_Name_kw (ld_blt I hg hm (show bootBuiltins "sorted" = some (.builtin "sorted") by decide +kernel) ?_)
  refine PyProof.Rows.callWith_kw (rest := []) ?_ (by rw [hev]; rfl) (by rw [hev]; rfl) (by rfl) (by rfl)
  rw [hev]
  refine Calls.spliced_cons (thn (he.run pins s σ H _ I h) fun u s1 ⟨v, H1, I1, r1, q1⟩ => ?_)
  refine Calls.spliced_nil ?_
  obtain ⟨a, ns, d, rfl, hs, hns, hσ, hd0, hd1, hT, q⟩ := q1
  obtain rfl : u = Value.ref a := r1
  show wpAny _ _ (evalAll [(do let v ← eval (.Lambda params (.BinOp (.BinOp (.Name x p1) .FloorDiv (.Name y p2) p3) .Mod (.Constant (.int 2) j p4) p5) scope lpos) X.env; standAt pos; pure v)]) _ _ _
  have hfree : ∀ z ∈ scope.names, z.2 = .free → ∃ c, X.env.cells.lookup z.1 = some c := fun z hz e => by
    rcases L.free z hz e with k | k
    · exact I1.ok.has _ (.inl k)
    · exact I1.ok.has _ (.inr k)
  refine wpAny_evalAll_cons (wpAny_bind (lam_make2 I1 TB hcode hmT hu hT hdef hfree fun f c' pm ctv H2 s2 I2 eN T2 hf hfn hfr hco => wpAny_bind (wpAny_standAt (wpAny_pure ?_))))
  refine wpAny_evalAll_nil ?_
  show wpAny (model X.prog X.w) X.A (call (.builtin "sorted") [.ref a] [(Str.ofString "key", .ref f)]) _ _ s2
  have hs2 : SqL X.K H2 a (ns.map .int) := by
    rcases hs with (hs | ⟨o, hs⟩) | hs
    · exact .inl (.inl (eN _ _ hs fun ps z => by cases z))
    · exact .inl (.inr ⟨o, eN _ _ hs fun ps z => by cases z⟩)
    · exact .inr hs
  obtain ⟨its, rv, hl, hz⟩ := I2.list hs2
  have hi := rv.ints
  -- the captured name
  obtain ⟨m, hnm, hloc⟩ := I2.loc
  have hvis : Vis X.env.scope y := (L.free _ (PySem.mem_of_lookup L.ly) rfl).elim (fun k => .inr (.inl k)) (fun k => .inr (.inr k))
  obtain ⟨u, ru, look⟩ := hloc iy y (.int d) hN hσ hvis
  obtain ⟨tu, rfl⟩ := ru
  obtain ⟨cy, hcy1, hcy2⟩ : ∃ cy, X.env.cells.lookup y = some cy ∧ s2.heap.IsCell cy (some (.int d tu)) := by
    rcases look with ⟨k', _⟩ | ⟨_, c3, e', z⟩
    · have k' : X.env.scope.names.lookup y = some .local := k'
      rcases L.free _ (PySem.mem_of_lookup L.ly) rfl with k2 | k2 <;> rw [show X.env.scope.names.lookup y = _ from k2] at k' <;> cases k'
    · exact ⟨c3, e', z⟩
  have hcl : (cloFrom X.env.cells scope.names []).lookup y = some cy := by
    obtain ⟨c2, h2⟩ := mem_lookup (cloFrom_has (cells := X.env.cells) (acc := []) (PySem.mem_of_lookup L.ly))
    rw [h2]
    rcases cloFrom_mem (PySem.mem_of_lookup h2) with hm | ⟨_, e2⟩
    · cases hm
    · rw [e2, hcy1]
      rfl
  have hcR : s2.heap.CodeRec (.ref c') (X.env.qual ++ "<lambda>") := by
    obtain ⟨⟨oc, vs, t, h1, h2, h3⟩, _, _⟩ := I2.hok c' _ hco
    exact ⟨c', oc, vs, t, rfl, h1, h2, h3⟩
  have lim := I2.nolimit
  refine PySem.W.sorted_key_data (b := false) (fun n : Int => .int (n / d % 2)) hl.isList (each_ints hi) (PySem.W.AllAlike.of fun _ _ => by simp [PySem.W.alike]) (PySem.W.Sortable.others (enc := fun n : Int => .int (n / d % 2)) fun _ => ⟨(fun z => nomatch z), (fun xs z => nomatch z)⟩) (Nat.le_trans hns (by decide)) (fun n _ => ?_)
    (PyProof.Rows.ksk_s1 _ _) (fun _ => PyProof.Rows.ksk_l1 _ _) (fun _ => PyProof.Rows.ksk_t1 _ _) (fun v n ⟨t, ev⟩ _ h tk kp => ?_) fun out c h' tk kp _ hD hol eo => ?_
  · have := hr.un
    show X.A.units + 2 + 0 < _
    omega
  · subst ev
    refine key_call (A := X.A.in1.in1) (s := { s2 with heap := h, toks := tk }) L (by have := hr.dp; show X.A.depth < _; omega) (lim.keeps kp) (kp _ _ hf) ?_ (hbind _ _ _ _ _ _) hcl (isCell_keep kp hcy2) hd0 hd1 hx1 hy1 hy2
    obtain ⟨c0, oc, vs, t, h0, h1, h2, h3⟩ := hcR
    exact ⟨c0, oc, vs, t, h0, kp _ _ h1, h2, h3⟩
  · rw [PySem.W.dataLe_int] at eo
    have ia := ints_of_each eo
    have hlen : ((ns.mergeSort (keyLe d)).map V.int).length ≤ sizeLine := by
      rw [List.length_map, List.length_mergeSort]
      exact Nat.le_trans hns (by decide)
    exact ⟨.ref _, upd H2 (s2.heap.objs.size + 1) (.lst ((ns.mergeSort (keyLe d)).map V.int)), I2.laid (t' := tk) kp (Nat.le_succ _) ⟨hlen, out, c, vals_of_ints ia, hD⟩, rfl, q H2 _ eN T2 (I2.hok.fresh (Nat.le_succ _))⟩
end
end Tw

set_option maxHeartbeats 4000000
namespace Tw
open PySem PySem.W
/-! ### a level's bits by numbers -/
theorem bk_bn : ∀ (w n i : Nat), i < w → bk i (bn n w) = (n / 2 ^ (w - 1 - i) % 2 == 1)
  | 0, _, _, h => absurd h (by omega)
  | w + 1, n, 0, _ => by
    rw [bn_front]
    show (n / 2 ^ w % 2 == 1) = _
    rw [show w + 1 - 1 - 0 = w by omega]
  | w + 1, n, i + 1, h => by
    rw [bn_front]
    show bk i (bn n w) = _
    rw [bk_bn w n i (by omega), show w + 1 - 1 - (i + 1) = w - 1 - i by omega]
theorem vb_bit {x : Wd} {w i : Nat} (hx : x.length = w) (hi : i < w) : vb x / 2 ^ (w - 1 - i) % 2 = (bk i x).toNat := by
  have e : x = bn (vb x) w := vb_same w x _ hx (bn_len _ _) (by rw [bn_vb_lt (by rw [← hx]; exact vb_lt x)])
  have h := bk_bn w (vb x) i hi
  rw [← e] at h
  rw [h]
  rcases (show vb x / 2 ^ (w - 1 - i) % 2 = 0 ∨ vb x / 2 ^ (w - 1 - i) % 2 = 1 by omega) with z | z <;> rw [z] <;> rfl
def vz (x : Wd) : Int := ((vb x : Nat) : Int)
theorem vz_bit {x : Wd} {w i : Nat} (hx : x.length = w) (hi : i < w) : vz x / ((2 ^ (w - 1 - i) : Nat) : Int) % 2 = ((bk i x).toNat : Int) := by
  rw [← vb_bit hx hi]
  unfold vz
  omega
theorem keyLe_total (d : Int) : TotalLe (keyLe d) := ⟨fun a b c h1 h2 => by
  unfold keyLe at *
  rw [decide_eq_true_eq] at *
  omega, fun a b => by
  unfold keyLe
  rw [decide_eq_true_eq, decide_eq_true_eq]
  omega⟩
theorem two_sort {d : Int} (g : Int → Bool) {L : List Int} (h : ∀ a ∈ L, a / d % 2 = ((g a).toNat : Int)) : L.mergeSort (keyLe d) = L.filter (fun a => g a == false) ++ L.filter (fun a => g a == true) := by
  have k0 : ∀ a ∈ L.filter (fun a => g a == false), a / d % 2 = 0 := fun a ha => by
    obtain ⟨h1, h2⟩ := List.mem_filter.mp ha
    rw [h a h1, beq_iff_eq.mp h2]
    rfl
  have k1 : ∀ a ∈ L.filter (fun a => g a == true), a / d % 2 = 1 := fun a ha => by
    obtain ⟨h1, h2⟩ := List.mem_filter.mp ha
    rw [h a h1, beq_iff_eq.mp h2]
    rfl
  refine (sort_unique (keyLe_total d) (List.pairwise_append.mpr ⟨?_, ?_, ?_⟩) fun c => ?_).symm
  · exact (List.pairwise_of_forall (R := fun _ _ => True) fun _ _ => trivial).imp_of_mem fun {a b} ha hb _ => by
      unfold keyLe
      rw [decide_eq_true_eq, k0 a ha, k0 b hb]
      omega
  · exact (List.pairwise_of_forall (R := fun _ _ => True) fun _ _ => trivial).imp_of_mem fun {a b} ha hb _ => by
      unfold keyLe
      rw [decide_eq_true_eq, k1 a ha, k1 b hb]
      omega
  · intro a ha b hb
    unfold keyLe
    rw [decide_eq_true_eq, k0 a ha, k1 b hb]
    omega
  · have sr : ∀ a, sameRank (keyLe d) c a = decide (c / d % 2 = a / d % 2) := fun a => by
      unfold sameRank keyLe
      rw [Bool.eq_iff_iff, Bool.and_eq_true, decide_eq_true_eq, decide_eq_true_eq, decide_eq_true_eq]
      omega
    rw [List.filter_append]
    rcases (show c / d % 2 = 0 ∨ c / d % 2 = 1 by omega) with z | z
    · have e1 : (L.filter (fun a => g a == false)).filter (sameRank (keyLe d) c) = L.filter (fun a => g a == false) := List.filter_eq_self.mpr fun a ha => by rw [sr, z, k0 a ha]; rfl
      have e2 : (L.filter (fun a => g a == true)).filter (sameRank (keyLe d) c) = [] := List.filter_eq_nil_iff.mpr fun a ha => by rw [sr, z, k1 a ha]; decide
      rw [e1, e2, List.append_nil]
      refine List.filter_congr fun a ha => ?_
      rw [sr, z, h a ha]
      cases g a <;> rfl
    · have e1 : (L.filter (fun a => g a == false)).filter (sameRank (keyLe d) c) = [] := List.filter_eq_nil_iff.mpr fun a ha => by rw [sr, z, k0 a ha]; decide
      have e2 : (L.filter (fun a => g a == true)).filter (sameRank (keyLe d) c) = L.filter (fun a => g a == true) := List.filter_eq_self.mpr fun a ha => by rw [sr, z, k1 a ha]; rfl
      rw [e1, e2, List.nil_append]
      refine List.filter_congr fun a ha => ?_
      rw [sr, z, h a ha]
      cases g a <;> rfl
theorem lev_sort {l : List Nat} {i : Nat} (hi : i < wdt l) : ((rowW (wos l) i).map vz).mergeSort (keyLe ((2 ^ (wdt l - 1 - i) : Nat) : Int)) = (rowW (wos l) (i + 1)).map vz := by
  have wl : ∀ x ∈ rowW (wos l) i, x.length = wdt l := fun x hx => wos_len x ((rowW_mem _ _ x).mp hx)
  have key : ∀ x ∈ rowW (wos l) i, decide (vz x / ((2 ^ (wdt l - 1 - i) : Nat) : Int) % 2 = 1) = bk i x := fun x hx => by
    rw [vz_bit (wl x hx) hi]
    cases bk i x <;> rfl
  rw [two_sort (fun a => decide (a / ((2 ^ (wdt l - 1 - i) : Nat) : Int) % 2 = 1)) fun a ha => ?_]
  · rw [rowW_succ, List.map_append, List.filter_map, List.filter_map]
    congr 1
    · congr 1
      refine List.filter_congr fun x hx => ?_
      show (decide (vz x / ((2 ^ (wdt l - 1 - i) : Nat) : Int) % 2 = 1) == false) = _
      rw [key x hx]
    · congr 1
      refine List.filter_congr fun x hx => ?_
      show (decide (vz x / ((2 ^ (wdt l - 1 - i) : Nat) : Int) % 2 = 1) == true) = _
      rw [key x hx]
  · rcases (show a / ((2 ^ (wdt l - 1 - i) : Nat) : Int) % 2 = 0 ∨ a / ((2 ^ (wdt l - 1 - i) : Nat) : Int) % 2 = 1 by omega) with z | z <;> rw [z] <;> rfl
end Tw
namespace Tw
open PySem PySem.Spec PyProof.Rows L2 LamX
/-! ### a text so many times, any signs -/
theorem mul_Sl (l : List Nat) (k : Nat) (h2 : 2 ≤ k) : Txt.mul (S l) (k : Int) = S (List.replicate k l).flatten := by
  unfold Txt.mul
  rw [if_neg (by omega)]
  by_cases hl : l = []
  · subst hl
    have e : (List.replicate k ([] : List Nat)).flatten = [] := List.flatten_eq_nil_iff.mpr fun x hx => (List.mem_replicate.mp hx).2
    rw [e]
    have hf : ((k : Int) == 1 || (S []).length == 0) = true := by
      rw [S_len]
      simp
    rw [hf]
    rfl
  have hlen : (S l).length ≠ 0 := by
    rw [S_len]
    exact fun z => hl (List.eq_nil_of_length_eq_zero z)
  have hf : ((k : Int) == 1 || (S l).length == 0) = false := by
    rw [Bool.or_eq_false_iff]
    refine ⟨?_, by simpa using hlen⟩
    rw [beq_eq_false_iff_ne]
    omega
  rw [hf]
  show (⟨_⟩ : Str) = S _
  have h3 := fold_repsA k l []
  unfold S
  rw [List.nil_append] at h3
  rw [← h3]
  rfl
theorem mulOk_Sl {l : List Nat} {k : Nat} (h1 : l.length ≤ 1000) (h2 : k ≤ 10000) : MulOk (S l) (k : Int) := by
  refine ⟨?_, fun h3 _ => ?_, fun h3 _ => ?_⟩
  · rw [Bool.or_eq_false_iff]
    exact ⟨decide_eq_false (by omega), decide_eq_false (by omega)⟩
  · have h5 : (1000 : Int) ≤ (2 ^ 63 - 1) / (k : Int) := by
      refine (Int.le_ediv_iff_mul_le (by omega)).mpr ?_
      omega
    rw [S_len]
    omega
  · show decide ((S l).length * ((k : Int)).toNat > sizeLine) = false
    refine decide_eq_false ?_
    rw [S_len, Int.toNat_natCast]
    have : sizeLine = 16777216 := by decide
    have := Nat.mul_le_mul h1 h2
    omega
theorem ltr_ab (n : Nat) (h : 0 < n) : ltr (List.replicate n [97, 98]).flatten = [97, 98] := by
  have e : ∀ i, inL (List.replicate n [97, 98]).flatten i = decide (i = 97 ∨ i = 98) := fun i => by
    unfold inL
    refine decide_eq_decide.mpr ?_
    rw [List.mem_flatten]
    constructor
    · rintro ⟨x, hx, hi⟩
      rw [(List.mem_replicate.mp hx).2] at hi
      simpa using hi
    · intro hi
      exact ⟨[97, 98], List.mem_replicate.mpr ⟨by omega, rfl⟩, by simpa using hi⟩
  unfold ltr
  rw [fr_congr fun i _ => e i]
  decide +kernel
end Tw

set_option maxHeartbeats 4000000
namespace Tw
open PySem PySem.W
/-! ### joining the two least -/
def sortN (l : List Nat) : List Nat := l.mergeSort (fun a b => decide (a ≤ b))
theorem sortN_perm (l : List Nat) : (sortN l).Perm l := List.mergeSort_perm _ _
theorem sortN_le (l : List Nat) : (sortN l).Pairwise (· ≤ ·) := by
  have h := List.pairwise_mergeSort (le := fun a b : Nat => decide (a ≤ b)) (fun a b c h1 h2 => by rw [decide_eq_true_eq] at *; omega) (fun a b => by rw [Bool.or_eq_true, decide_eq_true_eq, decide_eq_true_eq]; omega) l
  exact h.imp fun h => of_decide_eq_true h
theorem sorted_uniq {l m : List Nat} (h1 : l.Pairwise (· ≤ ·)) (h2 : m.Pairwise (· ≤ ·)) (p : l.Perm m) : l = m := List.Perm.eq_of_pairwise (fun a b _ _ x y => Nat.le_antisymm x y) h1 h2 p
theorem sortN_of {l m : List Nat} (h : m.Pairwise (· ≤ ·)) (p : m.Perm l) : sortN l = m := sorted_uniq (sortN_le l) h ((sortN_perm l).trans p.symm)
theorem sortN_eq {l m : List Nat} (p : l.Perm m) : sortN l = sortN m := sortN_of (sortN_le m) ((sortN_perm m).trans p.symm)
def huffF : Nat → List Nat → Nat
  | 0, _ => 0
  | k + 1, l => match sortN l with
    | a :: b :: r => a + b + huffF k ((a + b) :: r)
    | _ => 0
theorem huffF_perm {l m : List Nat} (k : Nat) (p : l.Perm m) : huffF k l = huffF k m := by
  cases k with
  | zero => rfl
  | succ k =>
    unfold huffF
    rw [sortN_eq p]
theorem huffF_step {l r : List Nat} {a b k : Nat} (h : sortN l = a :: b :: r) : huffF (k + 1) l = a + b + huffF k ((a + b) :: r) := by
  show (match sortN l with | a :: b :: r => a + b + huffF k ((a + b) :: r) | _ => 0) = _
  rw [h]
theorem huffF_one {l : List Nat} (k : Nat) (h : l.length ≤ 1) : huffF k l = 0 := by
  cases k with
  | zero => rfl
  | succ k =>
    show (match sortN l with | a :: b :: r => a + b + huffF k ((a + b) :: r) | _ => 0) = 0
    have e := (sortN_perm l).length_eq
    match hs : sortN l with
    | [] => rfl
    | [_] => rfl
    | a :: b :: r =>
      rw [hs] at e
      simp at e
      omega
def huff (l : List Nat) : Nat := huffF l.length l
/-! ### heaps -/
abbrev Hx := Nat × Nat × List Nat
def encH (h : Hx) : PyData := .tuple [.int (h.1 : Int), .int (h.2.1 : Int), .list ((h.2.2.map fun i : Nat => (i : Int)).map .int)]
def srtH (hs : List Hx) : List Hx := hs.mergeSort (dataLe false encH)
theorem srtH_perm (hs : List Hx) : (srtH hs).Perm hs := List.mergeSort_perm _ _
theorem encH_le {a b : Hx} (h : dataLe false encH a b = true) : a.1 ≤ b.1 := by
  rw [dataLe_eq] at h
  have h : (!dataLt (encH b) (encH a)) = true := h
  unfold encH at h
  rw [dataLt_tuple, dataLt_cons (by simp [alike])] at h
  by_cases e : b.1 = a.1
  · omega
  · rw [if_neg (by simp only [PyData.eqv, beq_iff_eq]; omega), dataLt_int] at h
    simp only [Bool.not_eq_true', decide_eq_false_iff_not] at h
    omega
theorem srtH_le (hs : List Hx) : (srtH hs).Pairwise fun a b => a.1 ≤ b.1 := (sort_pairwise (sortLe_total _ _ _) hs).imp fun h => encH_le h
theorem srtH_sortN (hs : List Hx) : sortN (hs.map (·.1)) = (srtH hs).map (·.1) := sortN_of (List.pairwise_map.mpr (srtH_le hs)) ((srtH_perm hs).map _)
def bump (f : List Nat) (i : Nat) : List Nat := f.set i (f.getD i 0 + 1)
def bumps (f : List Nat) (is : List Nat) : List Nat := is.foldl bump f
def jn (a b : Hx) : Hx := (a.1 + b.1, min a.2.1 b.2.1, a.2.2 ++ b.2.2)
abbrev Hs := List Hx × List Nat
def stepH (s : Hs) : Hs := match srtH s.1 with
  | a :: b :: r => (r ++ [jn a b], bumps s.2 (a.2.2 ++ b.2.2))
  | _ => s
def startH (cs : List Nat) : Hs := (cs.zipIdx.map fun p => (p.1, p.2, [p.2]), List.replicate cs.length 0)
def runH (cs : List Nat) : Nat → Hs
  | 0 => startH cs
  | k + 1 => stepH (runH cs k)
def lens (cs : List Nat) : List Nat := (runH cs (cs.length - 1)).2
theorem bump_len (f : List Nat) (i : Nat) : (bump f i).length = f.length := List.length_set
theorem bumps_len : ∀ (is : List Nat) (f : List Nat), (bumps f is).length = f.length
  | [], _ => rfl
  | i :: is, f => (bumps_len is (bump f i)).trans (bump_len f i)
theorem bump_at {f : List Nat} {i j : Nat} (hi : i < f.length) : (bump f i).getD j 0 = f.getD j 0 + if j = i then 1 else 0 := by
  unfold bump
  rw [List.getD_eq_getElem?_getD, List.getElem?_set]
  by_cases e : i = j
  · subst e
    rw [if_pos rfl, if_pos hi, if_pos rfl]
    rfl
  · rw [if_neg e, if_neg (Ne.symm e), List.getD_eq_getElem?_getD]
    rfl
theorem bumps_at {j : Nat} : ∀ (is : List Nat) (f : List Nat), (∀ i ∈ is, i < f.length) → is.Nodup → (bumps f is).getD j 0 = f.getD j 0 + if j ∈ is then 1 else 0
  | [], f, _, _ => by simp [bumps]
  | i :: is, f, h, nd => by
    obtain ⟨nd1, nd2⟩ := List.nodup_cons.mp nd
    have ih := bumps_at (j := j) is (bump f i) (fun k hk => by rw [bump_len]; exact h k (List.mem_cons_of_mem _ hk)) nd2
    show (bumps (bump f i) is).getD j 0 = _
    rw [ih, bump_at (h i (List.mem_cons_self ..))]
    by_cases e : j = i
    · subst e
      rw [if_pos rfl, if_neg nd1, if_pos (List.mem_cons_self ..)]
    · rw [if_neg e]
      by_cases e2 : j ∈ is
      · rw [if_pos e2, if_pos (List.mem_cons_of_mem _ e2)]
      · rw [if_neg e2, if_neg fun z => (List.mem_cons.mp z).elim e e2]
theorem sum_perm {l m : List Nat} (p : l.Perm m) : l.sum = m.sum := by
  induction p with
  | nil => rfl
  | cons x _ ih => rw [List.sum_cons, List.sum_cons, ih]
  | swap x y l => rw [List.sum_cons, List.sum_cons, List.sum_cons, List.sum_cons]; omega
  | trans _ _ ih1 ih2 => rw [ih1, ih2]
theorem sum_app (l m : List Nat) : (l ++ m).sum = l.sum + m.sum := by
  induction l with
  | nil => simp
  | cons x l ih => rw [List.cons_append, List.sum_cons, List.sum_cons, ih]; omega
theorem sum_add {α : Type} (g h : α → Nat) (l : List α) : (l.map fun i => g i + h i).sum = (l.map g).sum + (l.map h).sum := by
  induction l with
  | nil => rfl
  | cons x l ih => rw [List.map_cons, List.map_cons, List.map_cons, List.sum_cons, List.sum_cons, List.sum_cons, ih]; omega
theorem sum_two {α : Type} (g : α → Nat) (l : List α) : (l.map fun i => 2 * g i).sum = 2 * (l.map g).sum := by
  induction l with
  | nil => rfl
  | cons x l ih => rw [List.map_cons, List.map_cons, List.sum_cons, List.sum_cons, ih]; omega
def flatH (hs : List Hx) : List Nat := (hs.map (·.2.2)).flatten
/-- what holds behind k joins -/
structure Jn (cs : List Nat) (k : Nat) (s : Hs) : Prop where
  all : (flatH s.1).Perm (List.range cs.length)
  cnt : ∀ h ∈ s.1, h.1 = (h.2.2.map fun i => cs.getD i 0).sum
  full : ∀ h ∈ s.1, (h.2.2.map fun i => 2 ^ (100 - s.2.getD i 0)).sum = 2 ^ 100
  len : s.2.length = cs.length
  le : ∀ i, s.2.getD i 0 ≤ k
  cost : ((flatH s.1).map fun i => cs.getD i 0 * s.2.getD i 0).sum + huffF (cs.length - k) (s.1.map (·.1)) = huff cs
  many : s.1.length = cs.length - k
theorem flat_zip : ∀ (cs : List Nat) (n : Nat), flatH ((cs.zipIdx n).map fun p => (p.1, p.2, [p.2])) = List.range' n cs.length
  | [], n => rfl
  | c :: cs, n => by
    have ih := flat_zip cs (n + 1)
    rw [List.zipIdx_cons, List.map_cons, List.length_cons, List.range'_succ, ← ih]
    rfl
theorem zip_fst : ∀ (cs : List Nat) (n : Nat), ((cs.zipIdx n).map fun p : Nat × Nat => ((p.1, p.2, [p.2]) : Hx)).map (·.1) = cs
  | [], n => rfl
  | c :: cs, n => by
    rw [List.zipIdx_cons, List.map_cons, List.map_cons, zip_fst cs (n + 1)]
theorem jn_start (cs : List Nat) : Jn cs 0 (startH cs) := by
  have hm : ∀ h ∈ (startH cs).1, ∃ c i, h = (c, i, [i]) ∧ cs[i]? = some c := fun h hh => by
    obtain ⟨p, hp, rfl⟩ := List.mem_map.mp hh
    exact ⟨p.1, p.2, rfl, List.mem_zipIdx_iff_getElem?.mp hp⟩
  have f0 : ∀ i, (startH cs).2.getD i 0 = 0 := fun i => by
    show (List.replicate cs.length 0).getD i 0 = 0
    rw [List.getD_eq_getElem?_getD]
    by_cases h : i < cs.length
    · rw [List.getElem?_replicate, if_pos h]
      rfl
    · rw [List.getElem?_eq_none (by rw [List.length_replicate]; omega)]
      rfl
  refine ⟨?_, fun h hh => ?_, fun h hh => ?_, List.length_replicate .., fun i => by rw [f0]; exact Nat.le_refl _, ?_, ?_⟩
  · show (flatH ((cs.zipIdx 0).map _)).Perm _
    rw [flat_zip, List.range_eq_range']
  · obtain ⟨c, i, rfl, e⟩ := hm h hh
    show c = [cs.getD i 0].sum
    rw [List.getD_eq_getElem?_getD, e]
    simp
  · obtain ⟨c, i, rfl, e⟩ := hm h hh
    show [2 ^ (100 - (startH cs).2.getD i 0)].sum = _
    rw [f0]
    simp
  · have z : ((flatH (startH cs).1).map fun i => cs.getD i 0 * (startH cs).2.getD i 0).sum = 0 := by
      have e : (fun i => cs.getD i 0 * (startH cs).2.getD i 0) = fun _ => 0 := funext fun i => by rw [f0, Nat.mul_zero]
      rw [e, List.map_const', List.sum_replicate_nat, Nat.mul_zero]
    rw [z, Nat.zero_add]
    show huffF cs.length (((cs.zipIdx 0).map _).map _) = _
    rw [zip_fst]
    rfl
  · show ((cs.zipIdx 0).map _).length = _
    rw [List.length_map, List.length_zipIdx]
    rfl
theorem jn_step {cs : List Nat} {k : Nat} {s : Hs} (J : Jn cs k s) (hk : k + 1 < cs.length) (hn : cs.length ≤ 94) : Jn cs (k + 1) (stepH s) := by
  have hp := srtH_perm s.1
  obtain ⟨a, b, r, hs⟩ : ∃ a b r, srtH s.1 = a :: b :: r := by
    have e := hp.length_eq
    rw [J.many] at e
    match h : srtH s.1 with
    | [] => rw [h] at e; simp at e; omega
    | [_] => rw [h] at e; simp at e; omega
    | a :: b :: r => exact ⟨a, b, r, rfl⟩
  have es : stepH s = (r ++ [jn a b], bumps s.2 (a.2.2 ++ b.2.2)) := by
    show (match srtH s.1 with | a :: b :: r => (r ++ [jn a b], bumps s.2 (a.2.2 ++ b.2.2)) | _ => s) = _
    rw [hs]
  rw [es]
  rw [hs] at hp
  have hmem : ∀ h, h ∈ a :: b :: r → h ∈ s.1 := fun h hh => hp.mem_iff.mp hh
  have fl : (flatH s.1).Perm (a.2.2 ++ b.2.2 ++ flatH r) := by
    have := (hp.symm.map (·.2.2)).flatten
    unfold flatH
    rw [List.map_cons, List.map_cons, List.flatten_cons, List.flatten_cons, ← List.append_assoc] at this
    exact this
  have nd : (a.2.2 ++ b.2.2 ++ flatH r).Nodup := (fl.symm.trans J.all).nodup_iff.mpr List.nodup_range
  obtain ⟨nd1, nd2, nd3⟩ := List.nodup_append.mp nd
  have lt : ∀ i ∈ a.2.2 ++ b.2.2, i < s.2.length := fun i hi => by
    have := (fl.symm.trans J.all).mem_iff.mp (List.mem_append_left _ hi)
    rw [List.mem_range] at this
    rw [J.len]
    exact this
  have at_ : ∀ j, (bumps s.2 (a.2.2 ++ b.2.2)).getD j 0 = s.2.getD j 0 + if j ∈ a.2.2 ++ b.2.2 then 1 else 0 := fun j => bumps_at _ _ lt nd1
  have inn : ∀ j ∈ a.2.2 ++ b.2.2, (bumps s.2 (a.2.2 ++ b.2.2)).getD j 0 = s.2.getD j 0 + 1 := fun j hj => by rw [at_, if_pos hj]
  have out : ∀ j, j ∉ a.2.2 ++ b.2.2 → (bumps s.2 (a.2.2 ++ b.2.2)).getD j 0 = s.2.getD j 0 := fun j hj => by rw [at_, if_neg hj, Nat.add_zero]
  have rest : ∀ h ∈ r, ∀ j ∈ h.2.2, j ∉ a.2.2 ++ b.2.2 := fun h hh j hj hab => nd3 j hab j (List.mem_flatten.mpr ⟨h.2.2, List.mem_map.mpr ⟨h, hh, rfl⟩, hj⟩) rfl
  have ca := J.cnt a (hmem a (by simp))
  have cb := J.cnt b (hmem b (by simp))
  have flat2 : flatH (r ++ [jn a b]) = flatH r ++ (a.2.2 ++ b.2.2) := by
    unfold flatH
    rw [List.map_append, List.flatten_append]
    simp [jn]
  have half : ∀ x : Hx, x ∈ s.1 → (∀ j ∈ x.2.2, j ∈ a.2.2 ++ b.2.2) → 2 * (x.2.2.map fun i => 2 ^ (100 - (bumps s.2 (a.2.2 ++ b.2.2)).getD i 0)).sum = 2 ^ 100 := fun x hx hin => by
    rw [← J.full x hx, ← sum_two]
    refine congrArg List.sum (List.map_congr_left fun i hi => ?_)
    rw [inn i (hin i hi)]
    have := J.le i
    rw [show 100 - s.2.getD i 0 = (100 - (s.2.getD i 0 + 1)) + 1 by omega, Nat.pow_succ]
    omega
  refine ⟨?_, fun h hh => ?_, fun h hh => ?_, ?_, fun j => ?_, ?_, ?_⟩
  · show (flatH (r ++ [jn a b])).Perm _
    rw [flat2]
    exact (List.perm_append_comm.trans fl.symm).trans J.all
  · rcases List.mem_append.mp hh with hh | hh
    · exact J.cnt h (hmem h (List.mem_cons_of_mem _ (List.mem_cons_of_mem _ hh)))
    · rw [List.mem_singleton.mp hh]
      show a.1 + b.1 = ((a.2.2 ++ b.2.2).map _).sum
      rw [List.map_append, sum_app, ← ca, ← cb]
  · rcases List.mem_append.mp hh with hh | hh
    · rw [← J.full h (hmem h (List.mem_cons_of_mem _ (List.mem_cons_of_mem _ hh)))]
      refine congrArg List.sum (List.map_congr_left fun i hi => ?_)
      show 2 ^ (100 - (bumps s.2 (a.2.2 ++ b.2.2)).getD i 0) = _
      rw [out i (rest h hh i hi)]
    · rw [List.mem_singleton.mp hh]
      show ((a.2.2 ++ b.2.2).map fun i => 2 ^ (100 - (bumps s.2 (a.2.2 ++ b.2.2)).getD i 0)).sum = 2 ^ 100
      rw [List.map_append, sum_app]
      have h1 := half a (hmem a (by simp)) fun j hj => List.mem_append_left _ hj
      have h2 := half b (hmem b (by simp)) fun j hj => List.mem_append_right _ hj
      omega
  · show (bumps s.2 (a.2.2 ++ b.2.2)).length = _
    rw [bumps_len, J.len]
  · show (bumps s.2 (a.2.2 ++ b.2.2)).getD j 0 ≤ _
    rw [at_]
    have := J.le j
    split <;> omega
  · show ((flatH (r ++ [jn a b])).map fun i => cs.getD i 0 * (bumps s.2 (a.2.2 ++ b.2.2)).getD i 0).sum + huffF (cs.length - (k + 1)) ((r ++ [jn a b]).map (·.1)) = huff cs
    rw [← J.cost, flat2, List.map_append, sum_app]
    have e1 : ((flatH r).map fun i => cs.getD i 0 * (bumps s.2 (a.2.2 ++ b.2.2)).getD i 0) = (flatH r).map fun i => cs.getD i 0 * s.2.getD i 0 := List.map_congr_left fun i hi => by
      obtain ⟨l, hl, hi⟩ := List.mem_flatten.mp hi
      obtain ⟨h, hh, rfl⟩ := List.mem_map.mp hl
      rw [out i (rest h hh i hi)]
    have e2 : ((a.2.2 ++ b.2.2).map fun i => cs.getD i 0 * (bumps s.2 (a.2.2 ++ b.2.2)).getD i 0).sum = ((a.2.2 ++ b.2.2).map fun i => cs.getD i 0 * s.2.getD i 0).sum + (a.1 + b.1) := by
      have e3 : ((a.2.2 ++ b.2.2).map fun i => cs.getD i 0 * (bumps s.2 (a.2.2 ++ b.2.2)).getD i 0) = (a.2.2 ++ b.2.2).map fun i => cs.getD i 0 * s.2.getD i 0 + cs.getD i 0 := List.map_congr_left fun i hi => by
        rw [inn i hi, Nat.mul_add, Nat.mul_one]
      rw [e3, sum_add]
      congr 1
      rw [List.map_append, sum_app, ca, cb]
    have e4 : ((flatH s.1).map fun i => cs.getD i 0 * s.2.getD i 0).sum = ((a.2.2 ++ b.2.2).map fun i => cs.getD i 0 * s.2.getD i 0).sum + ((flatH r).map fun i => cs.getD i 0 * s.2.getD i 0).sum := by
      rw [sum_perm (fl.map _), List.map_append, sum_app]
    have e5 : huffF (cs.length - k) (s.1.map (·.1)) = a.1 + b.1 + huffF (cs.length - (k + 1)) ((r ++ [jn a b]).map (·.1)) := by
      have e6 : sortN (s.1.map (·.1)) = a.1 :: b.1 :: r.map (·.1) := by rw [srtH_sortN, hs]; rfl
      rw [show cs.length - k = (cs.length - (k + 1)) + 1 by omega, huffF_step e6]
      congr 1
      refine huffF_perm _ ?_
      rw [List.map_append]
      exact (List.perm_append_comm (l₁ := [a.1 + b.1]))
    rw [e1, e2, e4, e5]
    omega
  · show (r ++ [jn a b]).length = _
    have e := hp.length_eq
    rw [J.many] at e
    simp at e ⊢
    omega
theorem jn_run {cs : List Nat} (hn : cs.length ≤ 94) : ∀ k, k < cs.length → Jn cs k (runH cs k)
  | 0, _ => jn_start cs
  | k + 1, h => jn_step (jn_run hn k (by omega)) h hn
theorem map_getD {β : Type} (g : Nat → β) (f : List Nat) : f.map g = (List.range f.length).map fun i => g (f.getD i 0) := by
    refine List.ext_getElem? fun i => ?_
    rw [List.getElem?_map, List.getElem?_map]
    by_cases h : i < f.length
    · rw [List.getElem?_range h, List.getElem?_eq_getElem h]
      show some _ = some (g (f.getD i 0))
      rw [List.getD_eq_getElem?_getD, List.getElem?_eq_getElem h]
      rfl
    · rw [List.getElem?_eq_none (by omega), List.getElem?_eq_none (by rw [List.length_range]; omega)]
      rfl
/-- what is asked of lengths -/
structure Lens (cs f : List Nat) : Prop where
  len : f.length = cs.length
  le : ∀ z ∈ f, z + 1 ≤ cs.length
  full : (f.map fun z => 2 ^ (100 - z)).sum = 2 ^ 100
  cost : ((List.range cs.length).map fun i => cs.getD i 0 * f.getD i 0).sum = huff cs
theorem lens_ok {cs : List Nat} (h0 : 0 < cs.length) (hn : cs.length ≤ 94) : Lens cs (lens cs) := by
  have J := jn_run hn (cs.length - 1) (by omega)
  have e : lens cs = (runH cs (cs.length - 1)).2 := rfl
  rw [e]
  obtain ⟨h, hh⟩ : ∃ h, (runH cs (cs.length - 1)).1 = [h] := List.length_eq_one_iff.mp (by rw [J.many]; omega)
  have fl : flatH (runH cs (cs.length - 1)).1 = h.2.2 := by
    rw [hh]
    unfold flatH
    simp
  have all := J.all
  rw [fl] at all
  have cost := J.cost
  rw [fl, hh, huffF_one _ (by simp), Nat.add_zero] at cost
  refine ⟨J.len, fun z hz => ?_, ?_, ?_⟩
  · obtain ⟨i, hi⟩ := List.getElem?_of_mem hz
    have := J.le i
    rw [List.getD_eq_getElem?_getD, hi] at this
    have : z ≤ cs.length - 1 := this
    omega
  · rw [map_getD, J.len, ← J.full h (by rw [hh]; simp), sum_perm (all.map _)]
  · rw [← cost, sum_perm (all.map _)]
end Tw

set_option maxHeartbeats 4000000
namespace Tw
open PySem PySem.Spec PyProof.Rows L2 LamX
/-! ### comprehensions over pairs -/
theorem set_twice {α : Type} (l : List α) (j k : Nat) (h : j ≠ k) (a b x y : α) : ((((l.set k b).set j a).set j x).set k y).set k b = ((l.set k b).set j x) := by
  rw [List.set_set, List.set_set, List.set_comm _ _ h, List.set_set]
theorem wipe2 (σ : L2.St) {j k : Nat} (h : j ≠ k) (x y : Option V) : wipe (((wipe σ [j, k]).set j x).set k y) [j, k] = wipe σ [j, k] := by
  show ((((((σ.set k none).set j none).set j x).set k y).set k none).set j none) = (σ.set k none).set j none
  rw [set_twice _ _ _ h, List.set_set]
section
variable {lo : Prop} {T : List (Addr × Str)} {J : It} {n : Nat} {G : Hp → Prop} {xs ys : Nat → Option V} {te : TE} {g : TG} {j k : Nat} {σ : L2.St} {H1 : Hp} {D : Addr} {Qd : Hp → Prop}
theorem lcT (P : Nat → List V → Hp → Prop) (w : Walk J n G (YPair xs ys)) (hjk : j ≠ k) (hD : H1 D = none) (hn : n ≤ 1000000) (hG : ∀ H', Xg lo T H1 H' → G H')
    (hg : ∀ T x y σ H Q, H T = some (.tup [x, y]) → Q ((σ.set j (some x)).set k (some y)) H → g (.ref T) σ H Q) (h0 : P 0 [] (upd H1 D (.lst []))) (hP : ∀ i vs H H', P i vs H → Xg lo T H H' → P i vs H')
    (he : ∀ i x y H' vs, i < n → xs i = some x → ys i = some y → Xg lo T H1 H' → P i vs H' → H' D = some (.lst vs) → ∀ Q : VK, (∀ v H4, Xg lo T H' H4 → P (i + 1) (vs ++ [v]) (upd H4 D (.lst (vs ++ [v]))) → Q v H4) → te (((wipe σ [j, k]).set j (some x)).set k (some y)) H' Q)
    (hd : ∀ H' vs, Xg lo T H1 H' → P n vs H' → vs.length = n → H' D = some (.lst vs) → Qd H') :
    ∃ W : Nat → Nat → Hp → Prop, (∃ m, W 0 m (upd H1 D (.lst []))) ∧ ∀ i m H, W i m H →
      (J.stop i H ∧ Qd H) ∨ (J.go i H ∧ ∃ Nx : Hp → Prop, (∀ H', Nx H' → ∃ m', m' < m ∧ W (i + 1) m' H') ∧ ∀ x H', J.yld i H x H' → g x (wipe σ [j, k]) H' fun σ2 H2 => wipe σ2 [j, k] = wipe σ [j, k] ∧ tYes σ2 H2 fun b H3 =>
        if b = true then te σ2 H3 fun y H4 => ∃ acc, H4 D = some (.lst acc) ∧ acc.length < sizeLine ∧ Nx (upd H4 D (.lst (acc ++ [y]))) else Nx H3) := by
  refine lc_it w (fun i H => Xg lo T H1 H ∧ ∃ vs : List V, P i vs H ∧ vs.length = i ∧ H D = some (.lst vs)) ⟨Xg.new hD, [], h0, rfl, upd_same ..⟩ (fun i H _ p => hG H p.1) (fun i x H H' hi p hy => ?_) fun H p => by
    obtain ⟨x1, vs, h1, h2, h3⟩ := p
    exact hd H vs x1 h1 h2 h3
  obtain ⟨T0, x, y, rfl, nT, rfl, hx, hy⟩ := hy
  obtain ⟨x1, vs, h1, h2, h3⟩ := p
  have xn : Xg lo T H (upd H T0 (.tup [x, y])) := .new nT
  refine hg T0 x y _ _ _ (upd_same ..) ⟨wipe2 σ hjk _ _, ?_⟩
  unfold tYes
  refine iteT ?_
  have h1 := hP _ _ _ _ h1 xn
  have h3 := xn.lst h3
  refine he i x y _ vs hi hx hy (x1.trans xn) h1 h3 _ fun v H5 x5 p5 => ?_
  have e5 := x5.lst h3
  refine ⟨_, e5, ?_, ((x1.trans xn).trans x5).mut (.of hD) e5, vs ++ [v], p5, by rw [List.length_append, h2]; rfl, upd_same ..⟩
  rw [h2]
  exact Nat.lt_of_lt_of_le hi (Nat.le_trans hn (by decide))
/-- the elements by their turns alone -/
theorem lcTP (w : Walk J n G (YPair xs ys)) (hjk : j ≠ k) (hD : H1 D = none) (hn : n ≤ 1000000) (hG : ∀ H', Xg lo T H1 H' → G H')
    (hg : ∀ T x y σ H Q, H T = some (.tup [x, y]) → Q ((σ.set j (some x)).set k (some y)) H → g (.ref T) σ H Q) (r : Nat → V)
    (he : ∀ i x y H', i < n → xs i = some x → ys i = some y → Xg lo T H1 H' → ∀ Q : VK, (∀ H4, Xg lo T H' H4 → Q (r i) H4) → te (((wipe σ [j, k]).set j (some x)).set k (some y)) H' Q)
    (hd : ∀ H', Xg lo T H1 H' → H' D = some (.lst ((List.range n).map r)) → Qd H') :
    ∃ W : Nat → Nat → Hp → Prop, (∃ m, W 0 m (upd H1 D (.lst []))) ∧ ∀ i m H, W i m H →
      (J.stop i H ∧ Qd H) ∨ (J.go i H ∧ ∃ Nx : Hp → Prop, (∀ H', Nx H' → ∃ m', m' < m ∧ W (i + 1) m' H') ∧ ∀ x H', J.yld i H x H' → g x (wipe σ [j, k]) H' fun σ2 H2 => wipe σ2 [j, k] = wipe σ [j, k] ∧ tYes σ2 H2 fun b H3 =>
        if b = true then te σ2 H3 fun y H4 => ∃ acc, H4 D = some (.lst acc) ∧ acc.length < sizeLine ∧ Nx (upd H4 D (.lst (acc ++ [y]))) else Nx H3) :=
  lcT (fun i vs _ => vs = (List.range i).map r) w hjk hD hn hG hg rfl (fun _ _ _ _ h _ => h) (fun i x y H' vs hi hx hy x1 ev ed Q q => he i x y H' hi hx hy x1 Q fun H4 x4 => q (r i) H4 x4 (by rw [ev, List.range_succ, List.map_append]; rfl)) fun H' vs x1 ev _ ed => hd H' x1 (by rw [ed, ev])
end
section
variable {K : PySem.W.Frag} {a b : Addr} {xs ys : List V}
theorem w_enum : Walk (Ite K a) xs.length (fun H => SqL K H a xs) (YPair (fun i => some (.int (i : Nat))) (fun i => xs[i]?)) := walk_enum
theorem w_zip {n : Nat} (hn : n = min xs.length ys.length) : Walk (Itz K a b) n (fun H => SqL K H a xs ∧ SqL K H b ys) (YPair (fun i => xs[i]?) (fun i => ys[i]?)) := walk_zip hn
end
end Tw

set_option maxHeartbeats 4000000
namespace Tw
open PySem PySem.W
/-! ### words that fill -/
structure Fill (fs : List Nat) : Prop where
  ne : fs ≠ []
  le : ∀ z ∈ fs, z ≤ 94
  full : (fs.map fun z => 2 ^ (100 - z)).sum = 2 ^ 100
theorem Lens.fill {cs f : List Nat} (h : Lens cs f) (h0 : 0 < cs.length) (hn : cs.length ≤ 94) : Fill f := by
  refine ⟨fun e => ?_, fun z hz => by have := h.le z hz; omega, h.full⟩
  have := h.len
  rw [e] at this
  simp at this
  omega
theorem sum_mul {α : Type} (c : Nat) (g : α → Nat) (l : List α) : (l.map fun i => c * g i).sum = c * (l.map g).sum := by
  induction l with
  | nil => simp
  | cons x l ih => rw [List.map_cons, List.map_cons, List.sum_cons, List.sum_cons, ih, Nat.mul_add]
theorem fill_most {fs : List Nat} {m : Nat} (hm : m ≤ 94) (h : ∀ z ∈ fs, z ≤ m) : (fs.map fun z => 2 ^ (100 - z)).sum = 2 ^ 100 ↔ (fs.map fun z => 2 ^ (m - z)).sum = 2 ^ m := by
  have e : (fs.map fun z => 2 ^ (100 - z)) = fs.map fun z => 2 ^ (100 - m) * 2 ^ (m - z) := List.map_congr_left fun z hz => by
    rw [← Nat.pow_add]
    have := h z hz
    congr 1
    omega
  rw [e, sum_mul, show (2 : Nat) ^ 100 = 2 ^ (100 - m) * 2 ^ m by rw [← Nat.pow_add]; congr 1; omega]
  exact Nat.mul_left_cancel_iff (Nat.pos_of_ne_zero (by simp)) ..
theorem sum_cast {α : Type} (g : α → Nat) (l : List α) : (l.map fun i => ((g i : Nat) : Int)).sum = (((l.map g).sum : Nat) : Int) := by
  induction l with
  | nil => rfl
  | cons x l ih => rw [List.map_cons, List.map_cons, List.sum_cons, List.sum_cons, ih]; omega
/-! ### in order -/
def encP (p : Nat × Nat) : PyData := .tuple [.int (p.1 : Int), .int (p.2 : Int)]
def srtP (ps : List (Nat × Nat)) : List (Nat × Nat) := ps.mergeSort (dataLe false encP)
theorem srtP_perm (ps : List (Nat × Nat)) : (srtP ps).Perm ps := List.mergeSort_perm _ _
theorem srtP_le (ps : List (Nat × Nat)) : (srtP ps).Pairwise fun a b => a.1 < b.1 ∨ (a.1 = b.1 ∧ a.2 ≤ b.2) := by
  refine (sort_pairwise (sortLe_total _ _ _) ps).imp fun {a b} h => ?_
  have h : dataLe false (fun p : Nat × Nat => .tuple [.int (p.1 : Int), .int (p.2 : Int)]) a b = true := h
  rw [dataLe_ii, decide_eq_true_eq] at h
  omega
/-! ### words -/
abbrev Ws := Nat × Nat × List Wd
def wst (s : Ws) (p : Nat × Nat) : Ws := (s.1 * 2 ^ (p.1 - s.2.1) + 1, p.1, s.2.2.set p.2 (bn (s.1 * 2 ^ (p.1 - s.2.1)) p.1))
def wrun (fs : List Nat) (k : Nat) : Ws := ((srtP fs.zipIdx).take k).foldl wst (0, 0, List.replicate fs.length [])
def wrds (fs : List Nat) : List Wd := (wrun fs fs.length).2.2
abbrev Ls := Nat × List Wd
def lst_ (m : Nat) (s : Ls) (p : Nat × Nat) : Ls := (s.1 + 2 ^ (m - p.1), s.2.set p.2 (bn (s.1 / 2 ^ (m - p.1)) p.1))
def lrun (m : Nat) (fs : List Nat) (k : Nat) : Ls := ((srtP fs.zipIdx).take k).foldl (lst_ m) (0, List.replicate fs.length [])
theorem wl_step {m : Nat} {s : Ws} {t : Ls} {p : Nat × Nat} (h1 : t.1 = s.1 * 2 ^ (m - s.2.1)) (h2 : t.2 = s.2.2) (h3 : s.2.1 ≤ p.1) (h4 : p.1 ≤ m) : (lst_ m t p).1 = (wst s p).1 * 2 ^ (m - p.1) ∧ (lst_ m t p).2 = (wst s p).2.2 := by
  have e : 2 ^ (m - s.2.1) = 2 ^ (p.1 - s.2.1) * 2 ^ (m - p.1) := by rw [← Nat.pow_add]; congr 1; omega
  have e2 : t.1 = s.1 * 2 ^ (p.1 - s.2.1) * 2 ^ (m - p.1) := by rw [h1, e, Nat.mul_assoc]
  unfold lst_ wst
  refine ⟨?_, ?_⟩
  · show t.1 + 2 ^ (m - p.1) = (s.1 * 2 ^ (p.1 - s.2.1) + 1) * 2 ^ (m - p.1)
    rw [e2, Nat.add_mul, Nat.one_mul]
  · show t.2.set p.2 _ = s.2.2.set p.2 _
    rw [h2, e2, Nat.mul_div_cancel _ (Nat.pos_of_ne_zero (by simp))]
theorem zip_mem {fs : List Nat} {p : Nat × Nat} (h : p ∈ srtP fs.zipIdx) : fs[p.2]? = some p.1 := by
  have := (srtP_perm fs.zipIdx).mem_iff.mp h
  exact List.mem_zipIdx_iff_getElem?.mp this
theorem srt_len (fs : List Nat) : (srtP fs.zipIdx).length = fs.length := by rw [(srtP_perm _).length_eq, List.length_zipIdx]
theorem wrun_succ {fs : List Nat} {k : Nat} {p : Nat × Nat} (h : (srtP fs.zipIdx)[k]? = some p) : wrun fs (k + 1) = wst (wrun fs k) p := by
  unfold wrun
  rw [List.take_add_one, h, List.foldl_append]
  rfl
theorem lrun_succ {m : Nat} {fs : List Nat} {k : Nat} {p : Nat × Nat} (h : (srtP fs.zipIdx)[k]? = some p) : lrun m fs (k + 1) = lst_ m (lrun m fs k) p := by
  unfold lrun
  rw [List.take_add_one, h, List.foldl_append]
  rfl
theorem wide_at {fs : List Nat} : ∀ {k : Nat}, k ≤ fs.length → ∀ j p, k ≤ j → (srtP fs.zipIdx)[j]? = some p → (wrun fs k).2.1 ≤ p.1
  | 0, _, _, _, _, _ => Nat.zero_le _
  | k + 1, hk, j, p, hj, hp => by
    have hk2 : k < (srtP fs.zipIdx).length := by rw [srt_len]; omega
    have e : (srtP fs.zipIdx)[k]? = some (srtP fs.zipIdx)[k] := List.getElem?_eq_getElem hk2
    rw [wrun_succ e]
    obtain ⟨h1, h2⟩ := List.getElem?_eq_some_iff.mp hp
    have := List.pairwise_iff_getElem.mp (srtP_le fs.zipIdx) k j hk2 h1 (by omega)
    rw [h2] at this
    show (srtP fs.zipIdx)[k].1 ≤ p.1
    omega
theorem runs_same {m : Nat} {fs : List Nat} (hm : ∀ z ∈ fs, z ≤ m) : ∀ k, k ≤ fs.length → (lrun m fs k).1 = (wrun fs k).1 * 2 ^ (m - (wrun fs k).2.1) ∧ (lrun m fs k).2 = (wrun fs k).2.2
  | 0, _ => by
    refine ⟨?_, ?_⟩
    · show (0 : Nat) = 0 * _
      rw [Nat.zero_mul]
    · rfl
  | k + 1, hk => by
    obtain ⟨h1, h2⟩ := runs_same hm k (by omega)
    have hk2 : k < (srtP fs.zipIdx).length := by rw [srt_len]; omega
    have e : (srtP fs.zipIdx)[k]? = some (srtP fs.zipIdx)[k] := List.getElem?_eq_getElem hk2
    have hw := wide_at (fs := fs) (k := k) (by omega) k _ (Nat.le_refl _) e
    have hz := hm _ (List.mem_of_getElem? (zip_mem (List.mem_of_getElem? e)))
    rw [lrun_succ e, wrun_succ e]
    exact wl_step h1 h2 hw hz
theorem wrun_len (fs : List Nat) : ∀ k, k ≤ fs.length → (wrun fs k).2.2.length = fs.length
  | 0, _ => List.length_replicate
  | k + 1, hk => by
    have hk2 : k < (srtP fs.zipIdx).length := by rw [srt_len]; omega
    have e : (srtP fs.zipIdx)[k]? = some (srtP fs.zipIdx)[k] := List.getElem?_eq_getElem hk2
    rw [wrun_succ e]
    show (((wrun fs k).2.2).set _ _).length = _
    rw [List.length_set, wrun_len fs k (by omega)]
theorem wrun_num (fs : List Nat) (hf : ∀ z ∈ fs, z ≤ 94) : ∀ k, k ≤ fs.length → (wrun fs k).1 ≤ k * 2 ^ (wrun fs k).2.1 ∧ (wrun fs k).2.1 ≤ 94
  | 0, _ => ⟨Nat.zero_le _, Nat.zero_le _⟩
  | k + 1, hk => by
    obtain ⟨h1, h2⟩ := wrun_num fs hf k (by omega)
    have hk2 : k < (srtP fs.zipIdx).length := by rw [srt_len]; omega
    have e : (srtP fs.zipIdx)[k]? = some (srtP fs.zipIdx)[k] := List.getElem?_eq_getElem hk2
    have hw := wide_at (fs := fs) (k := k) (by omega) k _ (Nat.le_refl _) e
    have hz := hf _ (List.mem_of_getElem? (zip_mem (List.mem_of_getElem? e)))
    rw [wrun_succ e]
    refine ⟨?_, hz⟩
    show (wrun fs k).1 * 2 ^ ((srtP fs.zipIdx)[k].1 - (wrun fs k).2.1) + 1 ≤ (k + 1) * 2 ^ (srtP fs.zipIdx)[k].1
    have h3 : (wrun fs k).1 * 2 ^ ((srtP fs.zipIdx)[k].1 - (wrun fs k).2.1) ≤ k * 2 ^ (srtP fs.zipIdx)[k].1 := by
      refine Nat.le_trans (Nat.mul_le_mul_right _ h1) ?_
      rw [Nat.mul_assoc, ← Nat.pow_add]
      refine Nat.mul_le_mul_left _ (Nat.pow_le_pow_right (by decide) (by omega))
    have h4 : 1 ≤ 2 ^ (srtP fs.zipIdx)[k].1 := Nat.pos_of_ne_zero (by simp)
    rw [Nat.add_mul, Nat.one_mul]
    omega
end Tw

set_option maxHeartbeats 4000000
namespace Tw
open PySem PySem.Spec PyProof.Rows L2 LamX
/-! ### counts as values -/
def cV : V → Bool
  | .int n => decide (0 < n)
  | _ => false
def CvOk (v : V) : Prop := (∃ n, v = .int n) ∨ (∃ b, v = .bl b) ∨ v = .non
abbrev nV (c : Nat) : V := .int (c : Int)
def GoodC (cs : List Nat) : Prop := 1 ≤ cs.length ∧ cs.length ≤ 94 ∧ ∀ c ∈ cs, 0 < c
theorem counts_of : ∀ {xs : List V}, (∀ x ∈ xs, cV x = true) → ∃ cs : List Nat, xs = cs.map nV ∧ ∀ c ∈ cs, 0 < c
  | [], _ => ⟨[], rfl, fun _ h => by cases h⟩
  | x :: xs, h => by
    obtain ⟨cs, rfl, hc⟩ := counts_of (xs := xs) fun y hy => h y (List.mem_cons_of_mem _ hy)
    have hx := h x (List.mem_cons_self ..)
    cases x with
    | int n =>
      have hx : 0 < n := of_decide_eq_true hx
      refine ⟨n.toNat :: cs, ?_, fun c hm => ?_⟩
      · rw [List.map_cons]
        congr 1
        show V.int n = V.int ((n.toNat : Nat) : Int)
        rw [Int.toNat_of_nonneg (by omega)]
      · rcases List.mem_cons.mp hm with rfl | hm
        · omega
        · exact hc c hm
    | _ => cases hx
theorem nV_inj {cs ds : List Nat} (h : cs.map nV = ds.map nV) : cs = ds := (List.map_inj_right (f := nV) fun x y h => by injection h with h; omega).mp h
theorem cV_nV {cs : List Nat} (h : ∀ c ∈ cs, 0 < c) : ∀ x ∈ cs.map nV, cV x = true := fun x hx => by
  obtain ⟨c, hc, rfl⟩ := List.mem_map.mp hx
  exact decide_eq_true (by have := h c hc; omega)
theorem cvOk_nV (cs : List Nat) : ∀ x ∈ cs.map nV, CvOk x := fun x hx => by
  obtain ⟨c, _, rfl⟩ := List.mem_map.mp hx
  exact .inl ⟨_, rfl⟩
/-! ### heaps as they lie -/
def HeapAt (H : Hp) (ex : List Addr) (q : V × Hx) : Prop := ∃ t m, q.1 = .ref t ∧ t ∉ ex ∧ m ∉ ex ∧ H t = some (.tup [.int (q.2.1 : Int), .int (q.2.2.1 : Int), .ref m]) ∧ H m = some (.lst (q.2.2.2.map nV))
section
variable {lo : Prop} {T : List (Addr × Str)} {K : PySem.W.Frag} {H H' : Hp} {ex ex' : List Addr} {q : V × Hx} {f : Addr} {o : HO}
theorem HeapAt.xg (h : HeapAt H ex q) (x : Xg lo T H H') : HeapAt H' ex q := by
  obtain ⟨t, m, e, h1, h2, h3, h4⟩ := h
  exact ⟨t, m, e, h1, h2, x.tup h3, x.lst h4⟩
theorem HeapAt.upd (h : HeapAt H ex q) (hf : f ∈ ex) : HeapAt (upd H f o) ex q := by
  obtain ⟨t, m, e, h1, h2, h3, h4⟩ := h
  have n1 : t ≠ f := fun z => h1 (by rw [z]; exact hf)
  have n2 : m ≠ f := fun z => h2 (by rw [z]; exact hf)
  exact ⟨t, m, e, h1, h2, by rw [upd_ne n1]; exact h3, by rw [upd_ne n2]; exact h4⟩
theorem HeapAt.less (h : HeapAt H ex q) (hs : ∀ a ∈ ex', a ∈ ex) : HeapAt H ex' q := by
  obtain ⟨t, m, e, h1, h2, h3, h4⟩ := h
  exact ⟨t, m, e, fun z => h1 (hs _ z), fun z => h2 (hs _ z), h3, h4⟩
theorem HeapAt.dp (h : HeapAt H ex q) : Dp K H q.1 (encH q.2) := by
  obtain ⟨t, m, e, h1, h2, h3, h4⟩ := h
  rw [e]
  refine .tup (.inl (.inl h3)) (.cons (.int _) (.cons (.int _) (.cons (dp_ints (SqL.of ?_)) .nil)))
  rw [h4, List.map_map]
  rfl
end
abbrev encQ (q : V × Hx) : DV := (q.1, encH q.2)
def srtQ (qs : List (V × Hx)) : List (V × Hx) := qs.mergeSort (PySem.W.dataLe false fun q => encH q.2)
theorem srtQ_enc (qs : List (V × Hx)) : (srtD (qs.map encQ)).map Prod.fst = (srtQ qs).map Prod.fst := by
  have e : srtD (qs.map encQ) = (srtQ qs).map encQ := (List.map_mergeSort (f := encQ) fun _ _ _ _ => rfl).symm
  rw [e, List.map_map]
  rfl
theorem srtQ_snd (qs : List (V × Hx)) : (srtQ qs).map Prod.snd = srtH (qs.map Prod.snd) := List.map_mergeSort fun _ _ _ _ => rfl
theorem srtQ_mem {qs : List (V × Hx)} {q : V × Hx} : q ∈ srtQ qs ↔ q ∈ qs := (List.mergeSort_perm _ _).mem_iff
theorem encH_alike (qs : List (V × Hx)) : PySem.W.AllAlike ((qs.map encQ).map Prod.snd) := by
  intro d hd d' hd'
  rw [List.map_map] at hd hd'
  obtain ⟨q, _, rfl⟩ := List.mem_map.mp hd
  obtain ⟨q', _, rfl⟩ := List.mem_map.mp hd'
  show PySem.W.alike (encH q.2) (encH q'.2) = true
  simp only [encH, PySem.W.alike, PySem.W.alikeAll, PySem.W.alike_ints, Bool.and_self]
theorem encH_sortable (qs : List (V × Hx)) : PySem.W.Sortable ((qs.map encQ).map Prod.snd) := .inl fun d hd => by
  rw [List.map_map] at hd
  obtain ⟨q, _, rfl⟩ := List.mem_map.mp hd
  exact ⟨_, _, rfl⟩
theorem encH_depth (h : Hx) : (encH h).depth ≤ 62 := by
  have := PySem.W.depth_ints (h.2.2.map fun i : Nat => (i : Int))
  simp only [encH, PyData.depth, PyData.depthAll, this]
  omega
theorem jn_mem {cs : List Nat} {k : Nat} {s : Hs} (J : Jn cs k s) {a b : Hx} {r : List Hx} (hs : srtH s.1 = a :: b :: r) : a.2.2.length + b.2.2.length ≤ cs.length ∧ ∀ i ∈ a.2.2 ++ b.2.2, i < cs.length := by
  have hp := srtH_perm s.1
  rw [hs] at hp
  have fl : (flatH s.1).Perm (a.2.2 ++ b.2.2 ++ flatH r) := by
    have := (hp.symm.map (·.2.2)).flatten
    unfold flatH
    rw [List.map_cons, List.map_cons, List.flatten_cons, List.flatten_cons, ← List.append_assoc] at this
    exact this
  refine ⟨?_, fun i hi => ?_⟩
  · have h1 := (fl.symm.trans J.all).length_eq
    rw [List.length_append, List.length_append, List.length_range] at h1
    omega
  · have := (fl.symm.trans J.all).mem_iff.mp (List.mem_append_left _ hi)
    exact List.mem_range.mp this
/-! ### pairs as they lie -/
def PairAt (H : Hp) (ex : List Addr) (q : V × (Nat × Nat)) : Prop := ∃ t, q.1 = .ref t ∧ t ∉ ex ∧ H t = some (.tup [nV q.2.1, nV q.2.2])
section
variable {lo : Prop} {T : List (Addr × Str)} {K : PySem.W.Frag} {H H' : Hp} {ex ex' : List Addr} {q : V × (Nat × Nat)} {f : Addr} {o : HO}
theorem PairAt.xg (h : PairAt H ex q) (x : Xg lo T H H') : PairAt H' ex q := by
  obtain ⟨t, e, h1, h2⟩ := h
  exact ⟨t, e, h1, x.tup h2⟩
theorem PairAt.upd (h : PairAt H ex q) (hf : f ∈ ex) : PairAt (upd H f o) ex q := by
  obtain ⟨t, e, h1, h2⟩ := h
  have n1 : t ≠ f := fun z => h1 (by rw [z]; exact hf)
  exact ⟨t, e, h1, by rw [upd_ne n1]; exact h2⟩
theorem PairAt.less (h : PairAt H ex q) (hs : ∀ a ∈ ex', a ∈ ex) : PairAt H ex' q := by
  obtain ⟨t, e, h1, h2⟩ := h
  exact ⟨t, e, fun z => h1 (hs _ z), h2⟩
theorem PairAt.dp (h : PairAt H ex q) : Dp K H q.1 (encP q.2) := by
  obtain ⟨t, e, h1, h2⟩ := h
  rw [e]
  exact .tup (.inl (.inl h2)) (.cons (.int _) (.cons (.int _) .nil))
end
abbrev encR (q : V × (Nat × Nat)) : DV := (q.1, encP q.2)
def srtR (qs : List (V × (Nat × Nat))) : List (V × (Nat × Nat)) := qs.mergeSort (PySem.W.dataLe false fun q => encP q.2)
theorem srtR_enc (qs : List (V × (Nat × Nat))) : (srtD (qs.map encR)).map Prod.fst = (srtR qs).map Prod.fst := by
  have e : srtD (qs.map encR) = (srtR qs).map encR := (List.map_mergeSort (f := encR) fun _ _ _ _ => rfl).symm
  rw [e, List.map_map]
  rfl
theorem srtR_snd (qs : List (V × (Nat × Nat))) : (srtR qs).map Prod.snd = srtP (qs.map Prod.snd) := List.map_mergeSort fun _ _ _ _ => rfl
theorem srtR_mem {qs : List (V × (Nat × Nat))} {q : V × (Nat × Nat)} : q ∈ srtR qs ↔ q ∈ qs := (List.mergeSort_perm _ _).mem_iff
theorem encP_alike (qs : List (V × (Nat × Nat))) : PySem.W.AllAlike ((qs.map encR).map Prod.snd) := by
  intro d hd d' hd'
  rw [List.map_map] at hd hd'
  obtain ⟨q, _, rfl⟩ := List.mem_map.mp hd
  obtain ⟨q', _, rfl⟩ := List.mem_map.mp hd'
  show PySem.W.alike (encP q.2) (encP q'.2) = true
  simp [encP, PySem.W.alike, PySem.W.alikeAll]
theorem encP_sortable (qs : List (V × (Nat × Nat))) : PySem.W.Sortable ((qs.map encR).map Prod.snd) := .inl fun d hd => by
  rw [List.map_map] at hd
  obtain ⟨q, _, rfl⟩ := List.mem_map.mp hd
  exact ⟨_, _, rfl⟩
theorem encP_depth (p : Nat × Nat) : (encP p).depth ≤ 62 := by
  simp [encP, PyData.depth, PyData.depthAll]
end Tw

set_option maxHeartbeats 4000000
namespace Tw
open PySem PySem.Spec PyProof.Rows L2 LamX
/-! ### lengths that do not fill -/
theorem Fill.snoc {fs : List Nat} (F : Fill fs) (m : Nat) : ¬ Fill (fs ++ [m]) := fun G => by
  have h := G.full
  rw [List.map_append, sum_app, F.full] at h
  have : 0 < 2 ^ (100 - m) := Nat.pos_of_ne_zero (by simp)
  simp at h
theorem Fill.last {fs : List Nat} (F : Fill fs) : ∃ gs z, fs = gs ++ [z] ∧ z ≤ 94 ∧ (gs.map fun z => 2 ^ (100 - z)).sum + 2 ^ (100 - z) = 2 ^ 100 := by
  obtain ⟨gs, z, e⟩ : ∃ gs z, fs = gs ++ [z] := ⟨_, _, (List.dropLast_concat_getLast F.ne).symm⟩
  subst e
  refine ⟨gs, z, rfl, F.le z (by simp), ?_⟩
  have h := F.full
  rw [List.map_append, sum_app] at h
  simpa using h
theorem Fill.init {gs : List Nat} {z : Nat} (h : (gs.map fun z => 2 ^ (100 - z)).sum + 2 ^ (100 - z) = 2 ^ 100) : ¬ Fill gs := fun G => by
  rw [G.full] at h
  have : 0 < 2 ^ (100 - z) := Nat.pos_of_ne_zero (by simp)
  omega
theorem Fill.more {gs : List Nat} {z : Nat} (hz : z ≤ 94) (h : (gs.map fun z => 2 ^ (100 - z)).sum + 2 ^ (100 - z) = 2 ^ 100) : ¬ Fill (gs ++ [z + 1]) := fun G => by
  have h2 := G.full
  rw [List.map_append, sum_app] at h2
  have h3 : (gs.map fun z => 2 ^ (100 - z)).sum + 2 ^ (100 - (z + 1)) = 2 ^ 100 := by simpa using h2
  have h4 : 2 ^ (100 - z) = 2 * 2 ^ (100 - (z + 1)) := by
    rw [show 100 - z = (100 - (z + 1)) + 1 by omega, Nat.pow_succ]
    omega
  have : 0 < 2 ^ (100 - (z + 1)) := Nat.pos_of_ne_zero (by simp)
  omega
theorem fill_111 : ¬ Fill [1, 1, 1] := fun G => absurd G.full (by decide)
theorem fill_2 : ¬ Fill [2] := fun G => absurd G.full (by decide)
theorem fill_00 : ¬ Fill [0, 0] := fun G => absurd G.full (by decide)
abbrev toZ' (fs : List Nat) : List Int := fs.map fun z : Nat => (z : Int)
/-! ### sorted numbers -/
theorem sortZ {cs : List Nat} {zs : List Int} (p : zs.Perm (toZ' cs)) (h : zs.Pairwise (· ≤ ·)) : zs = toZ' (sortN cs) := by
  have h2 : (toZ' (sortN cs)).Pairwise (· ≤ ·) := List.pairwise_map.mpr ((sortN_le cs).imp fun h => by omega)
  exact List.Perm.eq_of_pairwise (fun a b _ _ x y => Int.le_antisymm x y) h h2 (p.trans ((sortN_perm cs).map _).symm)
theorem toZV (fs : List Nat) : (toZ' fs).map V.int = fs.map nV := by
  show (fs.map _).map V.int = _
  rw [List.map_map]
  rfl
theorem sortN_fix (cs : List Nat) : sortN (sortN cs) = sortN cs := sortN_of (sortN_le cs) (List.Perm.refl _)
theorem cut_init (xs : List V) (v : V) : cutV (xs ++ [v]) none (some (-1)) = xs := by
  unfold cutV
  have e1 : HT.sIx (xs ++ [v]).length 0 none = 0 := rfl
  have e2 : HT.sIx (xs ++ [v]).length (xs ++ [v]).length (some (-1)) = xs.length := by
    show (if (-1 : Int) < 0 then ((-1 : Int) + ((xs ++ [v]).length : Int)).toNat else min ((-1 : Int)).toNat (xs ++ [v]).length) = _
    rw [if_pos (by decide), List.length_append]
    simp
    omega
  rw [e1, e2, List.drop_zero, Nat.sub_zero, List.take_left]
theorem pos_rep {n c : Nat} (h : 0 < c) : ∀ x ∈ List.replicate n c, 0 < x := fun x hx => by rw [(List.mem_replicate.mp hx).2]; exact h
end Tw

set_option maxHeartbeats 4000000
namespace Tw
open PySem PySem.Spec PyProof.Rows L2 LamX
/-! ### no word begins another -/
theorem vb_app (x : Wd) : ∀ z : Wd, vb (x ++ z) = vb x * 2 ^ z.length + vb z := by
  have key : ∀ (n : Nat) (z : Wd), z.length = n → vb (x ++ z) = vb x * 2 ^ z.length + vb z := by
    intro n
    induction n with
    | zero =>
      intro z hz
      rw [List.eq_nil_of_length_eq_zero hz, List.append_nil]
      show vb x = vb x * 1 + 0
      omega
    | succ n ih =>
      intro z hz
      obtain ⟨u, b, rfl⟩ := SrtO.snoc_of (l := z) (by omega)
      rw [List.length_append, List.length_singleton] at hz
      rw [← List.append_assoc, vb_snoc, ih u (by omega), vb_snoc, List.length_append, List.length_singleton, Nat.pow_succ, Nat.mul_add, ← Nat.mul_assoc]
      have : 2 * vb x * 2 ^ u.length = vb x * (2 ^ u.length * 2) := by
        rw [Nat.mul_comm 2 (vb x), Nat.mul_assoc, Nat.mul_comm 2]
      omega
  exact fun z => key z.length z rfl
/-- where a word's numbers begin, in m bits -/
def lo (m : Nat) (x : Wd) : Nat := vb x * 2 ^ (m - x.length)
theorem lo_pre {m : Nat} {x y : Wd} (h : x <+: y) (hy : y.length ≤ m) : lo m x ≤ lo m y ∧ lo m y < lo m x + 2 ^ (m - x.length) := by
  obtain ⟨z, rfl⟩ := h
  rw [List.length_append] at hy
  unfold lo
  have hz := vb_lt z
  rw [vb_app, List.length_append]
  have e : 2 ^ (m - x.length) = 2 ^ z.length * 2 ^ (m - (x.length + z.length)) := by rw [← Nat.pow_add]; congr 1; omega
  have hp : 0 < 2 ^ (m - (x.length + z.length)) := Nat.pos_of_ne_zero (by simp)
  rw [e]
  generalize 2 ^ (m - (x.length + z.length)) = c at *
  generalize 2 ^ z.length = d at *
  have e1 : vb x * (d * c) = vb x * d * c := by rw [Nat.mul_assoc]
  rw [e1, Nat.add_mul]
  have h3 : vb z * c + c ≤ d * c := by
    have := Nat.mul_le_mul_right c (show vb z + 1 ≤ d by omega)
    rw [Nat.add_mul, Nat.one_mul] at this
    exact this
  omega
/-- the number at which the k-th begins -/
def beg (m : Nat) (fs : List Nat) (k : Nat) : Nat := (lrun m fs k).1
section
variable {fs : List Nat} {m : Nat}
theorem srt_at {k : Nat} (h : k < fs.length) : ∃ p, (srtP fs.zipIdx)[k]? = some p ∧ fs[p.2]? = some p.1 := by
  have hk2 : k < (srtP fs.zipIdx).length := by rw [srt_len]; exact h
  exact ⟨_, List.getElem?_eq_getElem hk2, zip_mem (List.getElem_mem hk2)⟩
theorem zip_snd : ∀ (l : List Nat) (n : Nat), (l.zipIdx n).map Prod.snd = List.range' n l.length
  | [], n => rfl
  | x :: l, n => by
    rw [List.zipIdx_cons, List.map_cons, zip_snd l (n + 1), List.length_cons, List.range'_succ]
theorem srt_snd : ((srtP fs.zipIdx).map Prod.snd).Perm (List.range fs.length) := by
  have h := (srtP_perm fs.zipIdx).map Prod.snd
  rw [zip_snd, ← List.range_eq_range'] at h
  exact h
theorem srt_ne {j k : Nat} {p q : Nat × Nat} (hj : (srtP fs.zipIdx)[j]? = some p) (hk : (srtP fs.zipIdx)[k]? = some q) (h : j ≠ k) : p.2 ≠ q.2 := fun e => by
  have nd : ((srtP fs.zipIdx).map Prod.snd).Nodup := srt_snd.nodup_iff.mpr List.nodup_range
  have h1 : ((srtP fs.zipIdx).map Prod.snd)[j]? = some p.2 := by rw [List.getElem?_map, hj]; rfl
  have h2 : ((srtP fs.zipIdx).map Prod.snd)[k]? = some q.2 := by rw [List.getElem?_map, hk]; rfl
  obtain ⟨a1, b1⟩ := List.getElem?_eq_some_iff.mp h1
  obtain ⟨a2, b2⟩ := List.getElem?_eq_some_iff.mp h2
  exact h ((List.getElem_inj nd).mp (by rw [b1, b2, e]))
theorem beg_succ {k : Nat} {p : Nat × Nat} (h : (srtP fs.zipIdx)[k]? = some p) : beg m fs (k + 1) = beg m fs k + 2 ^ (m - p.1) := by
  unfold beg
  rw [lrun_succ h]
  rfl
theorem beg_mono {j : Nat} : ∀ {k : Nat}, j ≤ k → k ≤ fs.length → beg m fs j ≤ beg m fs k
  | 0, h, _ => by rw [Nat.le_zero.mp h]; exact Nat.le_refl _
  | k + 1, h, hk => by
    rcases Nat.lt_or_ge k j with h1 | h1
    · rw [show j = k + 1 by omega]
      exact Nat.le_refl _
    · obtain ⟨p, hp, _⟩ := srt_at (fs := fs) (k := k) (by omega)
      rw [beg_succ hp]
      have := beg_mono (j := j) (k := k) h1 (by omega)
      have hp : 0 < 2 ^ (m - p.1) := Nat.pos_of_ne_zero (by simp)
      omega
theorem beg_end : ∀ k, k ≤ fs.length → beg m fs k = (((srtP fs.zipIdx).take k).map fun p => 2 ^ (m - p.1)).sum
  | 0, _ => rfl
  | k + 1, hk => by
    obtain ⟨p, hp, _⟩ := srt_at (fs := fs) (k := k) (by omega)
    rw [beg_succ hp, beg_end k (by omega), List.take_add_one, hp, List.map_append, sum_app]
    simp
theorem zip_fst1 : ∀ (l : List Nat) (n : Nat), (l.zipIdx n).map Prod.fst = l
  | [], n => rfl
  | x :: l, n => by rw [List.zipIdx_cons, List.map_cons, zip_fst1 l (n + 1)]
theorem beg_all (F : Fill fs) (hm : m ≤ 94) (hle : ∀ z ∈ fs, z ≤ m) : beg m fs fs.length = 2 ^ m := by
  rw [beg_end fs.length (Nat.le_refl _), List.take_of_length_le (by rw [srt_len]; exact Nat.le_refl _), ← (fill_most hm hle).mp F.full]
  have h := ((srtP_perm fs.zipIdx).map Prod.fst).map fun z => 2 ^ (m - z)
  rw [zip_fst1, List.map_map] at h
  exact sum_perm h
/-- the words set so far -/
theorem wrds_at (F : Fill fs) (hm : m ≤ 94) (hle : ∀ z ∈ fs, z ≤ m) : ∀ n, n ≤ fs.length → ∀ k p, k < n → (srtP fs.zipIdx)[k]? = some p → ∃ x : Wd, (lrun m fs n).2[p.2]? = some x ∧ x.length = p.1 ∧ lo m x = beg m fs k
  | 0, _, _, _, h, _ => absurd h (by omega)
  | n + 1, hn, k, p, hk, hp => by
    obtain ⟨q, hq, hqf⟩ := srt_at (fs := fs) (k := n) (by omega)
    rw [lrun_succ hq]
    have ll : (lrun m fs n).2.length = fs.length := by rw [(runs_same hle n (by omega)).2]; exact wrun_len fs n (by omega)
    have hq2 : q.2 < fs.length := (List.getElem?_eq_some_iff.mp hqf).1
    rcases Nat.lt_or_ge k n with h1 | h1
    · obtain ⟨x, h2, h3, h4⟩ := wrds_at F hm hle n (by omega) k p h1 hp
      refine ⟨x, ?_, h3, h4⟩
      show ((lrun m fs n).2.set q.2 _)[p.2]? = _
      rw [List.getElem?_set_ne (srt_ne hq hp (by omega))]
      exact h2
    · have e : k = n := by omega
      subst e
      have e2 : q = p := Option.some.inj (hq.symm.trans hp)
      subst e2
      have hqm := hle _ (List.mem_of_getElem? hqf)
      obtain ⟨r1, r2⟩ := runs_same hle k (by omega)
      have hw := wide_at (fs := fs) (k := k) (by omega) k q (Nat.le_refl _) hq
      have ediv : beg m fs k = (wrun fs k).1 * 2 ^ (q.1 - (wrun fs k).2.1) * 2 ^ (m - q.1) := by
        unfold beg
        rw [r1, Nat.mul_assoc, ← Nat.pow_add]
        congr 2
        omega
      have hp2 : 0 < 2 ^ (m - q.1) := Nat.pos_of_ne_zero (by simp)
      have hb : beg m fs k + 2 ^ (m - q.1) ≤ 2 ^ m := by
        rw [← beg_succ hq, ← beg_all F hm hle]
        exact beg_mono (by omega) (Nat.le_refl _)
      have e3 : (lrun m fs k).1 / 2 ^ (m - q.1) = (wrun fs k).1 * 2 ^ (q.1 - (wrun fs k).2.1) := by
        show beg m fs k / 2 ^ (m - q.1) = _
        rw [ediv, Nat.mul_div_cancel _ hp2]
      have hlt : (wrun fs k).1 * 2 ^ (q.1 - (wrun fs k).2.1) < 2 ^ q.1 := by
        have e4 : 2 ^ m = 2 ^ q.1 * 2 ^ (m - q.1) := by rw [← Nat.pow_add]; congr 1; omega
        rw [ediv, e4] at hb
        have h5 : ((wrun fs k).1 * 2 ^ (q.1 - (wrun fs k).2.1)) * 2 ^ (m - q.1) < 2 ^ q.1 * 2 ^ (m - q.1) := by omega
        exact Nat.lt_of_mul_lt_mul_right h5
      refine ⟨bn ((lrun m fs k).1 / 2 ^ (m - q.1)) q.1, ?_, bn_len _ _, ?_⟩
      · show ((lrun m fs k).2.set q.2 _)[q.2]? = _
        rw [List.getElem?_set_self (by rw [ll]; exact hq2)]
      · unfold lo
        rw [bn_len, e3, bn_vb_lt hlt, ediv]
theorem wrds_word (F : Fill fs) {i : Nat} (hi : i < fs.length) : ∃ (x : Wd) (k z : Nat), (wrds fs)[i]? = some x ∧ k < fs.length ∧ (srtP fs.zipIdx)[k]? = some (z, i) ∧ fs[i]? = some z ∧ x.length = z ∧ lo 94 x = beg 94 fs k := by
  have hm : i ∈ (srtP fs.zipIdx).map Prod.snd := srt_snd.mem_iff.mpr (List.mem_range.mpr hi)
  obtain ⟨p, hp, rfl⟩ := List.mem_map.mp hm
  obtain ⟨k, hk⟩ := List.getElem?_of_mem hp
  have hkl : k < fs.length := by rw [← srt_len fs]; exact (List.getElem?_eq_some_iff.mp hk).1
  obtain ⟨x, h1, h2, h3⟩ := wrds_at F (Nat.le_refl 94) F.le fs.length (Nat.le_refl _) k p hkl hk
  rw [(runs_same F.le fs.length (Nat.le_refl _)).2] at h1
  exact ⟨x, k, p.1, h1, hkl, hk, zip_mem hp, h2, h3⟩
theorem wrds_len (fs : List Nat) : (wrds fs).length = fs.length := wrun_len fs fs.length (Nat.le_refl _)
/-- none begins another -/
theorem wrds_free (F : Fill fs) {i j : Nat} {x y : Wd} (hx : (wrds fs)[i]? = some x) (hy : (wrds fs)[j]? = some y) (h : x <+: y) : i = j := by
  have hi : i < fs.length := by rw [← wrds_len fs]; exact (List.getElem?_eq_some_iff.mp hx).1
  have hj : j < fs.length := by rw [← wrds_len fs]; exact (List.getElem?_eq_some_iff.mp hy).1
  obtain ⟨x', k, z, a1, a2, a3, a4, a5, a6⟩ := wrds_word F hi
  obtain ⟨y', k2, z2, b1, b2, b3, b4, b5, b6⟩ := wrds_word F hj
  obtain rfl := Option.some.inj (hx.symm.trans a1)
  obtain rfl := Option.some.inj (hy.symm.trans b1)
  have hz2 := F.le _ (List.mem_of_getElem? b4)
  obtain ⟨l1, l2⟩ := lo_pre (m := 94) h (by omega)
  rw [a6, b6] at l1 l2
  rw [a5] at l2
  rcases Nat.lt_trichotomy k k2 with q | q | q
  · have h1 := beg_succ (m := 94) a3
    have h2 := beg_mono (m := 94) (fs := fs) (j := k + 1) (k := k2) (by omega) (by omega)
    have h1 : beg 94 fs (k + 1) = beg 94 fs k + 2 ^ (94 - z) := h1
    omega
  · subst q
    have := Option.some.inj (a3.symm.trans b3)
    exact congrArg Prod.snd this
  · have h1 : beg 94 fs (k2 + 1) = beg 94 fs k2 + 2 ^ (94 - z2) := beg_succ (m := 94) b3
    have h2 := beg_mono (m := 94) (fs := fs) (j := k2 + 1) (k := k) (by omega) (by omega)
    have : 0 < 2 ^ (94 - z2) := Nat.pos_of_ne_zero (by simp)
    omega
end
/-! ### reading -/
def rd (ws : List Wd) (r : Wd) : Option Nat := ((List.range ws.length).filter fun i => r.take (ws.getD i []).length == ws.getD i []).head?
def rdK (ws : List Wd) : Nat → Wd → Option (List Nat × Wd)
  | 0, r => some ([], r)
  | k + 1, r => match rdK ws k r with
    | none => none
    | some (is, r') => match rd ws r' with
      | none => none
      | some i => some (is ++ [i], r'.drop (ws.getD i []).length)
theorem rdK_step {ws : List Wd} {r r' : Wd} {k i : Nat} {is : List Nat} (h : rdK ws k r = some (is, r')) (h2 : rd ws r' = some i) : rdK ws (k + 1) r = some (is ++ [i], r'.drop (ws.getD i []).length) := by
  show (match rdK ws k r with | none => none | some (is, r') => match rd ws r' with | none => none | some i => some (is ++ [i], r'.drop (ws.getD i []).length)) = _
  rw [h]
  show (match rd ws r' with | none => none | some i => some (is ++ [i], r'.drop (ws.getD i []).length)) = _
  rw [h2]
theorem rdK_stop {ws : List Wd} {r r' : Wd} {k : Nat} {is : List Nat} (h : rdK ws k r = some (is, r')) (h2 : rd ws r' = none) : rdK ws (k + 1) r = none := by
  show (match rdK ws k r with | none => none | some (is, r') => match rd ws r' with | none => none | some i => some (is ++ [i], r'.drop (ws.getD i []).length)) = _
  rw [h]
  show (match rd ws r' with | none => none | some i => some (is ++ [i], r'.drop (ws.getD i []).length)) = _
  rw [h2]
theorem rd_some {ws : List Wd} {r : Wd} {i : Nat} (h : rd ws r = some i) : ∃ x, ws[i]? = some x ∧ x <+: r := by
  have hm := List.mem_of_mem_head? (Option.mem_def.mpr h)
  obtain ⟨h1, h2⟩ := List.mem_filter.mp hm
  rw [List.mem_range] at h1
  refine ⟨ws[i], List.getElem?_eq_getElem h1, ?_⟩
  have e : ws.getD i [] = ws[i] := by rw [List.getD_eq_getElem?_getD, List.getElem?_eq_getElem h1]; rfl
  rw [e, beq_iff_eq] at h2
  rw [List.prefix_iff_eq_take]
  exact h2.symm
theorem rd_none {ws : List Wd} {r : Wd} (h : rd ws r = none) : ∀ x ∈ ws, ¬ x <+: r := fun x hx hp => by
  obtain ⟨i, hi⟩ := List.getElem?_of_mem hx
  have hil := (List.getElem?_eq_some_iff.mp hi).1
  have e : ws.getD i [] = x := by rw [List.getD_eq_getElem?_getD, hi]; rfl
  have h0 : ((List.range ws.length).filter fun i => r.take (ws.getD i []).length == ws.getD i []) = [] := List.head?_eq_none_iff.mp h
  have := List.filter_eq_nil_iff.mp h0 i (List.mem_range.mpr hil)
  rw [e] at this
  exact this (beq_iff_eq.mpr (List.prefix_iff_eq_take.mp hp).symm)
theorem pre_two {x y r : Wd} (hx : x <+: r) (hy : y <+: r) : x <+: y ∨ y <+: x := List.prefix_or_prefix_of_prefix hx hy
theorem rd_of {fs : List Nat} (F : Fill fs) {i : Nat} {x r : Wd} (hx : (wrds fs)[i]? = some x) (hp : x <+: r) : rd (wrds fs) r = some i := by
  cases h : rd (wrds fs) r with
  | none => exact absurd hp (rd_none h x (List.mem_of_getElem? hx))
  | some j =>
    obtain ⟨y, hy, hpy⟩ := rd_some h
    rcases pre_two hp hpy with q | q
    · rw [wrds_free F hx hy q]
    · rw [wrds_free F hy hx q]
theorem rdK_none {ws : List Wd} {r : Wd} {k : Nat} (h : rdK ws k r = none) : ∀ n, k ≤ n → rdK ws n r = none
  | 0, hn => by rw [Nat.le_zero.mp hn] at h; exact h
  | n + 1, hn => by
    rcases Nat.lt_or_ge n k with q | q
    · rw [show n + 1 = k by omega]
      exact h
    · have ih := rdK_none h n q
      unfold rdK
      rw [ih]
/-- what was told is read -/
theorem rdK_told {fs : List Nat} (F : Fill fs) : ∀ (is : List Nat) (rest : Wd), (∀ i ∈ is, i < fs.length) → rdK (wrds fs) is.length ((is.map fun i => (wrds fs).getD i []).flatten ++ rest) = some (is, rest) := by
  intro is
  have key : ∀ (n : Nat) (is : List Nat), is.length = n → ∀ rest : Wd, (∀ i ∈ is, i < fs.length) → rdK (wrds fs) n ((is.map fun i => (wrds fs).getD i []).flatten ++ rest) = some (is, rest) := by
    intro n
    induction n with
    | zero =>
      intro is h rest _
      rw [List.eq_nil_of_length_eq_zero h]
      rfl
    | succ n ih =>
      intro is h rest hi
      obtain ⟨js, i, rfl⟩ : ∃ js i, is = js ++ [i] := ⟨_, _, (List.dropLast_concat_getLast (List.ne_nil_of_length_eq_add_one h)).symm⟩
      rw [List.length_append, List.length_singleton] at h
      have hil := hi i (by simp)
      have hx : (wrds fs)[i]? = some ((wrds fs).getD i []) := by
        rw [List.getD_eq_getElem?_getD, List.getElem?_eq_getElem (by rw [wrds_len]; exact hil)]
        rfl
      have e := ih js (by omega) ((wrds fs).getD i [] ++ rest) fun j hj => hi j (by simp [hj])
      have e2 : ((js ++ [i]).map fun i => (wrds fs).getD i []).flatten ++ rest = (js.map fun i => (wrds fs).getD i []).flatten ++ ((wrds fs).getD i [] ++ rest) := by
        rw [List.map_append, List.flatten_append, List.append_assoc]
        simp
      rw [e2]
      have e3 := rdK_step e (rd_of F hx (List.prefix_append _ rest))
      rw [List.drop_left] at e3
      exact e3
  exact key is.length is rfl
end Tw

set_option maxHeartbeats 4000000
namespace Tw
open PySem PySem.Spec PyProof.Rows L2 LamX
/-! ### a text coded -/
def cnts (l : List Nat) : List Nat := (ltr l).map fun c => l.count c
def wtx (l : List Nat) : List Wd := wrds (lens (cnts l))
def encB (l : List Nat) : Wd := (l.map fun c => (wtx l).getD (ixc l c) []).flatten
theorem ltr94 {l : List Nat} (h : ∀ c ∈ l, okSg c = true) : (ltr l).length ≤ 94 := by
  have e : ((List.range 128).filter okSg).length = 94 := by decide +kernel
  unfold ltr fr
  rw [← List.countP_eq_length_filter, ← e, ← List.countP_eq_length_filter]
  exact List.countP_mono_left fun c _ hc => h c (inL_iff.mp hc)
theorem ltr_pos {l : List Nat} (h0 : l ≠ []) (h : ∀ c ∈ l, c < 128) : 0 < (ltr l).length := by
  cases l with
  | nil => exact absurd rfl h0
  | cons c l => exact List.length_pos_of_mem (ltr_mem.mpr ⟨h c (by simp), by simp⟩)
theorem cnts_good {l : List Nat} (h0 : l ≠ []) (h : ∀ c ∈ l, okSg c = true) : GoodC (cnts l) := by
  have h1 : ∀ c ∈ l, c < 128 := fun c hc => by have := okSg_iff.mp (h c hc); omega
  refine ⟨?_, ?_, fun x hx => ?_⟩
  · unfold cnts
    rw [List.length_map]
    exact ltr_pos h0 h1
  · unfold cnts
    rw [List.length_map]
    exact ltr94 h
  · obtain ⟨c, hc, rfl⟩ := List.mem_map.mp hx
    exact List.count_pos_iff.mpr (ltr_mem.mp hc).2
theorem sum_ind {g : Nat → Nat} {x : Nat} : ∀ {L : List Nat}, L.Nodup → x ∈ L → (L.map fun c => if x = c then g c else 0).sum = g x
  | [], _, h => by cases h
  | c :: L, nd, h => by
    obtain ⟨n1, n2⟩ := List.nodup_cons.mp nd
    rw [List.map_cons, List.sum_cons]
    by_cases e : x = c
    · subst e
      rw [if_pos rfl]
      have z : (L.map fun c => if x = c then g c else 0).sum = 0 := by
        have : (L.map fun c => if x = c then g c else 0) = L.map fun _ => 0 := List.map_congr_left fun c hc => by
          rw [if_neg]
          intro e
          rw [e] at n1
          exact n1 hc
        rw [this, List.map_const', List.sum_replicate_nat, Nat.mul_zero]
      omega
    · rw [if_neg e, Nat.zero_add, sum_ind n2 ((List.mem_cons.mp h).resolve_left e)]
theorem sum_by {g : Nat → Nat} {L : List Nat} (nd : L.Nodup) : ∀ {l : List Nat}, (∀ c ∈ l, c ∈ L) → (l.map g).sum = (L.map fun c => l.count c * g c).sum
  | [], _ => by
    have e : (L.map fun c => ([] : List Nat).count c * g c) = L.map fun _ => 0 := List.map_congr_left fun c _ => by simp
    rw [e, List.map_const', List.sum_replicate_nat, Nat.mul_zero]
    rfl
  | x :: l, h => by
    rw [List.map_cons, List.sum_cons, sum_by nd fun c hc => h c (List.mem_cons_of_mem _ hc)]
    have e : (L.map fun c => (x :: l).count c * g c) = L.map fun c => (if x = c then g c else 0) + l.count c * g c := List.map_congr_left fun c _ => by
      rw [List.count_cons]
      by_cases e : x = c
      · subst e
        rw [if_pos rfl]
        simp [Nat.add_mul, Nat.add_comm]
      · rw [if_neg e]
        simp [e]
    rw [e, sum_add, sum_ind nd (h x (by simp))]
theorem ltr_nd (l : List Nat) : (ltr l).Nodup := (ltr_lt l).imp fun h => Nat.ne_of_lt h
theorem ltr_ix {l : List Nat} (h1 : ∀ c ∈ l, c < 128) {i c : Nat} (h : (ltr l)[i]? = some c) : ixc l c = i := by
  have hc := ltr_mem.mp (List.mem_of_getElem? h)
  have e := ltr_get hc.2 hc.1
  obtain ⟨a1, b1⟩ := List.getElem?_eq_some_iff.mp h
  obtain ⟨a2, b2⟩ := List.getElem?_eq_some_iff.mp e
  exact (List.getElem_inj (ltr_nd l)).mp (by rw [b1, b2])
theorem wtx_at {l : List Nat} (h0 : l ≠ []) (h : ∀ c ∈ l, okSg c = true) {i : Nat} (hi : i < (ltr l).length) : ∃ x, (wtx l)[i]? = some x ∧ x.length = (lens (cnts l)).getD i 0 ∧ x.length ≤ 94 := by
  have g := cnts_good h0 h
  have L := lens_ok g.1 g.2.1
  have F := L.fill g.1 g.2.1
  have hl : (lens (cnts l)).length = (ltr l).length := by rw [L.len]; exact List.length_map ..
  obtain ⟨x, k, z, h1, _, _, h4, h5, _⟩ := wrds_word F (i := i) (by omega)
  refine ⟨x, h1, ?_, by rw [h5]; exact F.le z (List.mem_of_getElem? h4)⟩
  rw [List.getD_eq_getElem?_getD, h4, h5]
  rfl
/-- as few bits as can be -/
theorem enc_len {l : List Nat} (h0 : l ≠ []) (h : ∀ c ∈ l, okSg c = true) : (encB l).length = huff (cnts l) := by
  have h1 : ∀ c ∈ l, c < 128 := fun c hc => by have := okSg_iff.mp (h c hc); omega
  have g := cnts_good h0 h
  have L := lens_ok g.1 g.2.1
  rw [← L.cost]
  unfold encB
  rw [List.length_flatten, List.map_map]
  have e : (l.map (List.length ∘ fun c => (wtx l).getD (ixc l c) [])) = l.map fun c => (lens (cnts l)).getD (ixc l c) 0 := List.map_congr_left fun c hc => by
    obtain ⟨x, hx, hxl, _⟩ := wtx_at h0 h (ixc_lt hc (h1 c hc))
    show ((wtx l).getD (ixc l c) []).length = _
    rw [List.getD_eq_getElem?_getD, hx, ← hxl]
    rfl
  have hl : (cnts l).length = (ltr l).length := List.length_map ..
  rw [e, sum_by (ltr_nd l) (fun c hc => ltr_mem.mpr ⟨h1 c hc, hc⟩), hl]
  refine congrArg List.sum (List.ext_getElem? fun i => ?_)
  rw [List.getElem?_map, List.getElem?_map]
  by_cases hi : i < (ltr l).length
  · have hc : (ltr l)[i]? = some (ltr l)[i] := List.getElem?_eq_getElem hi
    rw [hc, List.getElem?_range hi]
    show some _ = some _
    congr 1
    have e2 : (cnts l).getD i 0 = l.count (ltr l)[i] := by
      unfold cnts
      rw [List.getD_eq_getElem?_getD, List.getElem?_map, hc]
      rfl
    show List.count (ltr l)[i] l * (lens (cnts l)).getD (ixc l (ltr l)[i]) 0 = (cnts l).getD i 0 * (lens (cnts l)).getD i 0
    rw [e2, ltr_ix h1 hc]
  · rw [List.getElem?_eq_none (by omega), List.getElem?_eq_none (by rw [List.length_range]; omega)]
    rfl
theorem enc_le {l : List Nat} (h0 : l ≠ []) (h : ∀ c ∈ l, okSg c = true) : (encB l).length ≤ l.length * 94 := by
  have h1 : ∀ c ∈ l, c < 128 := fun c hc => by have := okSg_iff.mp (h c hc); omega
  unfold encB
  rw [List.length_flatten, List.map_map]
  have key : ∀ m : List Nat, (∀ c ∈ m, c ∈ l) → (m.map (List.length ∘ fun c => (wtx l).getD (ixc l c) [])).sum ≤ m.length * 94 := by
    intro m
    induction m with
    | nil => intro _; simp
    | cons c m ih =>
      intro hm
      have ih := ih fun d hd => hm d (List.mem_cons_of_mem _ hd)
      have hc := hm c (by simp)
      obtain ⟨x, hx, _, hxl⟩ := wtx_at h0 h (ixc_lt hc (h1 c hc))
      have e : ((wtx l).getD (ixc l c) []).length ≤ 94 := by
        rw [List.getD_eq_getElem?_getD, hx]
        exact hxl
      rw [List.map_cons, List.sum_cons, List.length_cons, Nat.succ_mul]
      show ((wtx l).getD (ixc l c) []).length + _ ≤ _
      omega
  exact key l fun c hc => hc
/-- read again -/
theorem enc_read {l : List Nat} (h0 : l ≠ []) (h : ∀ c ∈ l, okSg c = true) (rest : Wd) : rdK (wtx l) l.length (encB l ++ rest) = some (l.map (ixc l), rest) := by
  have h1 : ∀ c ∈ l, c < 128 := fun c hc => by have := okSg_iff.mp (h c hc); omega
  have g := cnts_good h0 h
  have L := lens_ok g.1 g.2.1
  have F := L.fill g.1 g.2.1
  have hl : (lens (cnts l)).length = (ltr l).length := by rw [L.len]; exact List.length_map ..
  have := rdK_told F (l.map (ixc l)) rest fun i hi => by
    obtain ⟨c, hc, rfl⟩ := List.mem_map.mp hi
    have := ixc_lt hc (h1 c hc)
    omega
  rw [List.length_map, List.map_map] at this
  exact this
theorem letters_back {l : List Nat} (h1 : ∀ c ∈ l, c < 128) : (l.map (ixc l)).map (fun i => (ltr l).getD i 0) = l := by
  rw [List.map_map]
  conv => rhs; rw [← List.map_id l]
  refine List.map_congr_left fun c hc => ?_
  show (ltr l).getD (ixc l c) 0 = c
  rw [List.getD_eq_getElem?_getD, ltr_get hc (h1 c hc)]
  rfl
def GoodL (ls : List Nat) : Prop := (∀ c ∈ ls, okSg c = true) ∧ ls = ltr ls
theorem ltr_ltr (l : List Nat) : ltr (ltr l) = ltr l := by
  unfold ltr
  refine fr_congr fun c hc => ?_
  rw [Bool.eq_iff_iff, inL_iff, inL_iff]
  have := ltr_mem (cs := l) (c := c)
  unfold ltr at this
  rw [this]
  exact ⟨fun h => h.2, fun h => ⟨hc, h⟩⟩
theorem goodL_ltr {l : List Nat} (h : ∀ c ∈ l, okSg c = true) : GoodL (ltr l) := ⟨fun c hc => h c (ltr_mem.mp hc).2, (ltr_ltr l).symm⟩
/-! ### lists of texts -/
theorem eqvAll_strs : ∀ (l m : List Str), PyData.eqvAll (l.map .str) (m.map .str) = decide (l = m)
  | [], [] => rfl
  | [], _ :: _ => rfl
  | _ :: _, [] => rfl
  | x :: l, y :: m => by
    show ((x == y) && PyData.eqvAll (l.map .str) (m.map .str)) = _
    rw [eqvAll_strs l m, Bool.eq_iff_iff]
    simp
theorem eqv_strs (l m : List Str) : PyData.eqv (.list (l.map .str)) (.list (m.map .str)) = decide (l = m) := eqvAll_strs l m
theorem inV_sb (y : Wd) (ws : List Wd) : inV (.str (sb y)) (ws.map fun x => V.str (sb x)) = decide (y ∈ ws) := by
  induction ws with
  | nil => rfl
  | cons x ws ih =>
    have e : inV (.str (sb y)) ((x :: ws).map fun x => V.str (sb x)) = ((sb x == sb y) || inV (.str (sb y)) (ws.map fun x => V.str (sb x))) := rfl
    rw [e, ih, Bool.eq_iff_iff, Bool.or_eq_true, beq_iff_eq, decide_eq_true_eq, decide_eq_true_eq, List.mem_cons]
    constructor
    · rintro (h | h)
      · exact .inl (sb_inj h).symm
      · exact .inr h
    · rintro (h | h)
      · exact .inl (by rw [h])
      · exact .inr h
theorem flat_sb (ws : List Wd) : (ws.map fun x => V.str (sb x)).all flatV = true := by
  rw [List.all_map]
  exact List.all_eq_true.mpr fun _ _ => rfl
end Tw

set_option maxHeartbeats 4000000
namespace Tw
open PySem PySem.Spec PyProof.Rows L2 LamX
theorem cutS_drop (l : List Nat) (j : Nat) : cutS (S l) (some (j : Int)) none = S (l.drop j) := by
  unfold cutS
  rw [HT.sIx_nat, S_len]
  show (⟨_⟩ : Str) = ⟨_⟩
  congr 2
  show (l.drop (min j l.length)).take (l.length - min j l.length) = _
  by_cases hj : j ≤ l.length
  · rw [Nat.min_eq_left hj, List.take_of_length_le (by rw [List.length_drop]; omega)]
  · rw [List.drop_eq_nil_of_le (by omega : l.length ≤ min j l.length), List.drop_eq_nil_of_le (by omega : l.length ≤ j)]
    simp
theorem cut_sbD (l : Wd) (j : Nat) : cutS (sb l) (some (j : Int)) none = sb (l.drop j) := by
  unfold sb
  rw [cutS_drop, List.map_drop]
theorem cut_sbT (l : Wd) (j : Nat) : cutS (sb l) none (some (j : Int)) = sb (l.take j) := by
  unfold sb
  rw [cutS_take, List.map_take]
/-! ### refusals of several sorts told one behind the other -/
structure BL (T : List (Addr × Str)) (H0 : Hp) (zs : List Str) (p : Addr) (H : Hp) : Prop where
  x : Xt T H0 H
  n : Nw H0 p
  e : H p = some (.lst (zs.map V.str))
section
variable {T : List (Addr × Str)} {K : PySem.W.Frag} {H0 H H' : Hp} {p p2 : Addr} {z : Str} {zs : List Str}
theorem BL.xt (s : BL T H0 zs p H) (x : Xt T H H') : BL T H0 zs p H' := ⟨s.x.trans x, s.n, x.lst s.e⟩
theorem BL.new (x : Xt T H0 H) (n : H p = none) (h : upd H p (.lst [.str z]) = H') : BL T H0 [z] p H' := ⟨x.trans (newE h n), x.nw (.of n), atE h⟩
theorem BL.cat (s : BL T H0 zs p H) (n : H p2 = none) (h : upd H p2 (.lst (zs.map V.str ++ [.str z])) = H') : BL T H0 (zs ++ [z]) p2 H' :=
  ⟨s.x.trans (newE h n), s.x.nw (.of n), by rw [atE h, List.map_append]; rfl⟩
end
/-! ### pairs of bits and counts -/
def PairB (H : Hp) (q : V × (Wd × Nat)) : Prop := ∃ t, q.1 = .ref t ∧ H t = some (.tup [.str (sb q.2.1), nV q.2.2])
theorem PairB.xg {lo : Prop} {T : List (Addr × Str)} {H H' : Hp} {q : V × (Wd × Nat)} (h : PairB H q) (x : Xg lo T H H') : PairB H' q := by
  obtain ⟨t, e, h2⟩ := h
  exact ⟨t, e, x.tup h2⟩
end Tw

set_option maxHeartbeats 4000000
namespace Tw
open PySem PySem.Spec PyProof.Rows L2 LamX
section
variable {P : Program} {w : World} {K : PySem.W.Frag} {mg : Str → Option Value} {base : Heap}
def spLNeeds : Sp := fun vs H Q _ => ∃ n : Nat, vs = [.int n] ∧ Q (.int (nd n)) H
theorem ok__law_needs (T : Tx K mg) : OkN P w K mg base ("_law_needs", none) 1 ["_law_number"] spLNeeds := by
  refine T.F__law_needs.ok sc__law_needs (fun vs H Q E h => ?_) (fun cdv A outer s H vs Q E hr h => ?_)
  · obtain ⟨n, rfl, _⟩ := h
    rfl
  · obtain ⟨n, rfl, q1⟩ := h
    refine ⟨_, (pss_cons (ps_set (i := 1) sc__law_needs.nd rfl (.inl rfl) pe_int)
    (pss_cons (ps_while (passes_of rfl) (pt_cmpR op_gt (pv 0) pe_int (nomark _))
    (pss_cons (ps_set (i := 0) sc__law_needs.nd rfl (.inl rfl) (pe_op op_fdiv (pv 0) pe_int))
    (pss_one (ps_set (i := 1) sc__law_needs.nd rfl (.inl rfl) (pe_op op_add (pv 1) pe_int)))))
    (pss_one (ps_ret (pv 1))))), ?_⟩
    refine ⟨fun m σ H' => ∃ c : Nat, σ = [some (.int m), some (.int c)] ∧ H' = H ∧ c + nd m = nd n, ⟨n, 0, rfl, rfl, Nat.zero_add _⟩, fun m σ H' hW => ?_⟩
    obtain ⟨c, rfl, rfl, ec⟩ := hW
    refine ⟨_, rfl, _, _, rfl, rfl, _, rfl, ite2 (fun e => ?_) (fun e => ?_)⟩
    · have hm : 0 < m := by simp only [decide_eq_true_eq] at e; omega
      refine ⟨fun σ' H'' => ∃ m', m' < m ∧ ∃ c : Nat, σ' = [some (.int m'), some (.int c)] ∧ H'' = H' ∧ c + nd m' = nd n, fun _ _ h => h, ?_⟩
      refine ⟨_, rfl, _, _, rfl, rfl, ⟨by decide, by decide⟩, _, rfl, _, _, rfl, rfl, m / 2, by omega, c + 1, ?_, rfl, ?_⟩
      · exact rfl
      · rw [← ec, nd_pos hm]; omega
    · have hm : m = 0 := by simp only [decide_eq_true_eq] at e; omega
      subst hm
      refine ⟨_, rfl, ?_⟩
      have e0 : c = nd n := by rw [← ec, nd_zero]; rfl
      rw [e0]
      exact q1
def spInBits : Sp := fun vs H Q _ => ∃ n w : Nat, vs = [.int n, .int w] ∧ w ≤ 100000 ∧ Q (.str (sb (bn n w))) H
theorem ok_in_bits (T : Tx K mg) : OkN P w K mg base ("in_bits", none) 1 ["number", "wide"] spInBits := by
  refine T.F_in_bits.ok sc_in_bits (fun vs H Q E h => ?_) (fun cdv A outer s H vs Q E hr h => ?_)
  · obtain ⟨n, wd, rfl, _⟩ := h
    rfl
  · obtain ⟨n, wd, rfl, hw, q⟩ := h
    refine ⟨_, (pss_cons (ps_set (i := 2) sc_in_bits.nd rfl (.inl rfl) pe_str)
    (pss_cons (ps_for (passes_of rfl) rfl (pi_range1 (by rfl) T.z_range (pa_cons (pv 1) pa_nil)) (pg_name (i := 3) sc_in_bits.nd rfl (.inl rfl))
    (pss_cons (ps_set (i := 2) sc_in_bits.nd rfl (.inl rfl) (pe_op op_add_str (pe_callTy call_str_int (by rfl) T.z_str b_str (pa_cons (pe_op op_mod (pv 0) pe_int) pa_nil)) (pv 2)))
    (pss_one (ps_set (i := 0) sc_in_bits.nd rfl (.inl rfl) (pe_op op_fdiv (pv 0) pe_int)))))
    (pss_one (ps_ret (pv 2))))), ?_⟩
    refine ⟨_, rfl, _, rfl, by omega, by omega, for_it w_range (fun i σ H' => H' = H ∧ ∃ t, σ = [some (.int ((n / 2 ^ i : Nat) : Int)), some (.int wd), some (.str (sb (bn n i))), t]) ⟨rfl, none, by rw [Nat.pow_zero, Nat.div_one, bn, ← sb_nil]; rfl⟩ (fun _ _ _ _ _ => trivial) ?_ ?_⟩
    · intro i x σ H1 H2 hi p hy
      obtain ⟨rfl, t, rfl⟩ := p
      obtain ⟨rfl, rfl⟩ := hy
      have h2 : (((n / 2 ^ i : Nat) : Int) % 2).natAbs.log2 < 1920 := by
        have : (((n / 2 ^ i : Nat) : Int) % 2).natAbs < 2 := by omega
        refine Nat.lt_of_le_of_lt (Nat.log2_le_self _) ?_
        omega
      have hi2 : i < wd := by omega
      refine ⟨_, rfl, _, _, rfl, rfl, (show (0 : Int) < 2 by decide), _, rfl, h2, _, rfl, _, _, rfl, rfl, ?_, ?_⟩
      · rw [str_bit, sb_len, sb_len, bn_len]
        exact Nat.le_trans (by show 1 + i ≤ 100001; omega) (by decide)
      · refine ⟨_, rfl, _, _, rfl, rfl, ⟨by decide, by decide⟩, rfl, some (.int (0 + i)), ?_⟩
        have e : (Str.ofString (toString (((n / 2 ^ i : Nat) : Int) % 2)) : Str) ++ sb (bn n i) = sb (bn n (i + 1)) := by
          rw [str_bit, sb_app, bn_front]
          rfl
        have e2 : (((n / 2 ^ i : Nat) : Int) / 2) = ((n / 2 ^ (i + 1) : Nat) : Int) := by
          rw [Nat.pow_succ, ← Nat.div_div_eq_div_mul]
          omega
        rw [e, ← e2]
        rfl
    · intro σ H1 p
      obtain ⟨rfl, t, rfl⟩ := p
      exact ⟨_, rfl, by rw [Int.toNat_natCast] at *; exact q⟩
theorem ok__law_bits (T : Tx K mg) : OkN P w K mg base ("_law_bits", none) 1 ["_law_number", "_law_wide"] spInBits := by
  refine T.F__law_bits.ok sc__law_bits (fun vs H Q E h => ?_) (fun cdv A outer s H vs Q E hr h => ?_)
  · obtain ⟨n, wd, rfl, _⟩ := h
    rfl
  · obtain ⟨n, wd, rfl, hw, q⟩ := h
    refine ⟨_, (pss_cons (ps_set (i := 2) sc__law_bits.nd rfl (.inl rfl) pe_str)
    (pss_cons (ps_for (passes_of rfl) rfl (pi_range1 (by rfl) T.z_range (pa_cons (pv 1) pa_nil)) (pg_name (i := 3) sc__law_bits.nd rfl (.inl rfl))
    (pss_cons (ps_set (i := 2) sc__law_bits.nd rfl (.inl rfl) (pe_op op_add_str (pe_callTy call_str_int (by rfl) T.z_str b_str (pa_cons (pe_op op_mod (pv 0) pe_int) pa_nil)) (pv 2)))
    (pss_one (ps_set (i := 0) sc__law_bits.nd rfl (.inl rfl) (pe_op op_fdiv (pv 0) pe_int)))))
    (pss_one (ps_ret (pv 2))))), ?_⟩
    refine ⟨_, rfl, _, rfl, by omega, by omega, for_it w_range (fun i σ H' => H' = H ∧ ∃ t, σ = [some (.int ((n / 2 ^ i : Nat) : Int)), some (.int wd), some (.str (sb (bn n i))), t]) ⟨rfl, none, by rw [Nat.pow_zero, Nat.div_one, bn, ← sb_nil]; rfl⟩ (fun _ _ _ _ _ => trivial) ?_ ?_⟩
    · intro i x σ H1 H2 hi p hy
      obtain ⟨rfl, t, rfl⟩ := p
      obtain ⟨rfl, rfl⟩ := hy
      have h2 : (((n / 2 ^ i : Nat) : Int) % 2).natAbs.log2 < 1920 := by
        have : (((n / 2 ^ i : Nat) : Int) % 2).natAbs < 2 := by omega
        refine Nat.lt_of_le_of_lt (Nat.log2_le_self _) ?_
        omega
      have hi2 : i < wd := by omega
      refine ⟨_, rfl, _, _, rfl, rfl, (show (0 : Int) < 2 by decide), _, rfl, h2, _, rfl, _, _, rfl, rfl, ?_, ?_⟩
      · rw [str_bit, sb_len, sb_len, bn_len]
        exact Nat.le_trans (by show 1 + i ≤ 100001; omega) (by decide)
      · refine ⟨_, rfl, _, _, rfl, rfl, ⟨by decide, by decide⟩, rfl, some (.int (0 + i)), ?_⟩
        have e : (Str.ofString (toString (((n / 2 ^ i : Nat) : Int) % 2)) : Str) ++ sb (bn n i) = sb (bn n (i + 1)) := by
          rw [str_bit, sb_app, bn_front]
          rfl
        have e2 : (((n / 2 ^ i : Nat) : Int) / 2) = ((n / 2 ^ (i + 1) : Nat) : Int) := by
          rw [Nat.pow_succ, ← Nat.div_div_eq_div_mul]
          omega
        rw [e, ← e2]
        rfl
    · intro σ H1 p
      obtain ⟨rfl, t, rfl⟩ := p
      exact ⟨_, rfl, by rw [Int.toNat_natCast] at *; exact q⟩
def spNeedBits (K : PySem.W.Frag) : Sp := fun vs H Q E => ∃ z : Str, vs = [.str z] ∧ z.length ≤ 100000 ∧ (IsB z → ∀ H', Xs (tK K) H H' → Q .non H') ∧ (¬ IsB z → ∀ H', Xs (tK K) H H' → E (.ref (He.ga K "BadBits")) none H')
theorem ok_need_bits (T : Tx K mg) : OkN P w K mg base ("need_bits", none) 1 ["bits"] (spNeedBits K) := by
  refine T.F_need_bits.ok sc_need_bits (fun vs H Q E h => ?_) (fun cdv A outer s H vs Q E hr h => ?_)
  · obtain ⟨z, rfl, _⟩ := h
    rfl
  · obtain ⟨z, rfl, hl, q1, q2⟩ := h
    obtain ⟨l, rfl⟩ : ∃ l, z = S l := ⟨_, S_of z⟩
    rw [S_len] at hl
    refine ⟨_, (pss_one (ps_if (pt_not (pt_val (pe_callB (cr_allK (K := K) rfl rfl) (by rfl) T.z_all b_all (pa_cons (pe_lc (own := [("sign", 1)]) rfl sc_need_bits.nd (pi_str (pv 0)) (blkOk_by (N := N_need_bits) (sc := defScope s_need_bits) (by decide +kernel)) (fun _ _ _ _ _ => (pg_name (i := 1) sc_need_bits.nd rfl (.inl rfl))) (fun _ _ _ _ _ => pts_nil) (fun _ _ _ _ _ => (pe_cmpR op_in_sign (pv 1) pe_str (by rfl)))) pa_nil))))
    (pss_one (ps_rz T.x_BadBits rfl (by decide))) pss_nil)), ?_⟩
    refine ⟨_, rfl, _, rfl, fun D hD => lcPs (T := tK K) w_str hD (by omega) (fun _ _ => trivial) (fun i => .bl (decide (l.getD i 0 ∈ [48, 49]))) ?_ fun H1 x1 e1 => ?_⟩
    · intro i x H1 hi hy x1 Q q
      obtain ⟨c, hc, rfl⟩ := hy
      refine ⟨_, rfl, _, _, rfl, rfl, ?_⟩
      rw [signs01]
      have e : l.getD i 0 = c := by rw [List.getD_eq_getElem?_getD, hc]; rfl
      rw [e] at q
      exact q H1 Xs.refl
    · refine ⟨D, (List.range l.length).map fun i => decide (l.getD i 0 ∈ [48, 49]), rfl, SqL.of (by rw [e1, List.map_map]; rfl), _, rfl, ?_⟩
      rw [all_bits]
      refine ite2 (fun e => ?_) (fun e => ?_)
      · exact q2 (fun hb => by rw [isB_iff] at hb; rw [decide_eq_true hb] at e; cases e) H1 x1
      · refine q1 ((isB_iff l).mpr (by by_cases h : ∀ c ∈ l, c = 48 ∨ c = 49; exact h; rw [decide_eq_false h] at e; exact absurd rfl e)) H1 x1
end
end Tw

set_option maxHeartbeats 4000000
namespace Tw
open PySem PySem.Spec PyProof.Rows L2 LamX
def spDrawn : Sp := fun vs H Q _ => ∃ c k : Int, vs = [.int c, .int k] ∧ 0 ≤ k ∧ k ≤ 1000000 ∧ Q (.int (dr c k)) H
section
variable {P : Program} {w : World} {K : PySem.W.Frag} {mg : Str → Option Value} {base : Heap}
theorem ok__law_drawn (T : Tx K mg) : OkN P w K mg base ("_law_drawn", none) 1 ["_law_cell_here", "_law_k"] spDrawn := by
  refine T.F__law_drawn.ok sc__law_drawn (fun vs H Q E h => ?_) (fun cdv A outer s H vs Q E hr h => ?_)
  · obtain ⟨c, k, rfl, _⟩ := h
    rfl
  · obtain ⟨c, k, rfl, h0, hk, q⟩ := h
    refine ⟨_, (pss_cons (ps_set (i := 2) sc__law_drawn.nd rfl (.inl rfl) (pe_op op_mod (pe_op op_add (pe_op op_mul (pv 0) pe_int) (pe_op op_mul (pe_op op_add (pv 1) pe_int) pe_int)) pe_int))
    (pss_cons (ps_set (i := 2) sc__law_drawn.nd rfl (.inl rfl) (pe_op op_mod (pe_op op_mulW (pv 2) (pv 2)) pe_int))
    (pss_cons (ps_set (i := 2) sc__law_drawn.nd rfl (.inl rfl) (pe_op op_mulW (pe_op op_mulW (pe_op op_add (pe_op op_mod (pv 2) pe_int) pe_int) (pe_op op_add (pe_op op_fdivW (pv 2) pe_int) pe_int)) (pv 2)))
    (pss_one (ps_ret (pe_op op_mod (pv 2) pe_int)))))), ?_⟩
    refine ⟨_, rfl, _, _, rfl, rfl, .inr ⟨by decide, by decide⟩, _, rfl, _, _, rfl, rfl, _, _, rfl, rfl, .inr ⟨by decide, by decide⟩, _, _, rfl, rfl, _, _, rfl, rfl, (show (0 : Int) < pA by decide), ?_⟩
    refine ⟨_, rfl, _, rfl, _, _, rfl, rfl, wide_mul (a := 129) (b := 129) (dr1_abs c k) (dr1_abs c k) (by decide) (by decide) (by decide), _, _, rfl, rfl, (show (0 : Int) < pB by decide), ?_⟩
    refine ⟨_, rfl, _, _, rfl, rfl, (show (0 : Int) < pC by decide), _, _, rfl, rfl, _, rfl, _, _, rfl, rfl, (wide_div (b := 64) (by decide) (by decide) (by decide) (by decide)), _, _, rfl, rfl, _, _, rfl, rfl, ?_, _, rfl, _, _, rfl, rfl, ?_, ?_⟩
    · exact wide_mul (a := 65) (b := 129) (dr2_a c k) (dr2_b c k) (by decide) (by decide) (by decide)
    · exact wide_mul (a := 194) (b := 129) (wide_lt (a := 65) (b := 129) (dr2_a c k) (dr2_b c k)) (dr2_abs c k) (by decide) (by decide) (by decide)
    exact ⟨_, rfl, _, _, rfl, rfl, (show (0 : Int) < pA by decide), q⟩
def spCell (K : PySem.W.Frag) : Sp := fun vs H Q _ => ∃ (a : Addr) (ns : List Int) (k : Nat), vs = [.ref a, .int k] ∧ SqL K H a (ns.map .int) ∧ k ≤ 1000000 ∧ ns.length ≤ 1000000 ∧ ∀ H', Xt (tK K) H H' → Q (.int (cellV ns k)) H'
theorem ok__law_cell (T : Tx K mg) : OkN P w K mg base ("_law_cell", none) 1 ["_law_script", "_law_k"] (spCell K) := by
  refine T.F__law_cell.ok sc__law_cell (fun vs H Q E h => ?_) (fun cdv A outer s H vs Q E hr h => ?_)
  · obtain ⟨a, ns, k, rfl, _⟩ := h
    rfl
  · obtain ⟨a, ns, k, rfl, ha, hk, hl, q⟩ := h
    refine ⟨_, (pss_cons (ps_if (pt_cmpR (op_eqDK (K := K) rfl hr.units) (pv 0) (pe_lst pa_nil) (nomark _))
    (pss_one (ps_ret (pe_op op_mul (pv 1) pe_int))) pss_nil)
    (pss_one (ps_ret (pe_op op_add (pe_ix (ix_listK (K := K) rfl) (pv 0) (pe_op op_mod (pv 1) (pe_callB (call_len_seqK (K := K) rfl) (by rfl) T.z_len b_len (pa_cons (pv 0) pa_nil))) (fun _ _ => rfl)) (pe_op op_mul (pe_op op_fdivW (pv 1) (pe_callB (call_len_seqK (K := K) rfl) (by rfl) T.z_len b_len (pa_cons (pv 0) pa_nil))) pe_int))))), ?_⟩
    refine ⟨_, rfl, by decide, fun p hp => ?_⟩
    have x : Xt (tK K) H (upd H p (.lst [])) := Xt.new hp
    refine eqD_of (d := .list (ns.map .int)) (e := .list (([] : List Int).map .int)) (dp_ints (x.seq ha)) (dp_ints (SqL.of (by rw [upd_same]; rfl))) sh_ints sh_ints ?_
    rw [eqv_ints]
    unfold cellV at q
    by_cases h0 : ns = []
    · rw [if_pos h0] at q
      rw [decide_eq_true h0]
      exact ⟨_, rfl, iteT ⟨_, rfl, _, _, rfl, rfl, .inr ⟨by decide, by decide⟩, q _ x⟩⟩
    · rw [if_neg h0] at q
      rw [decide_eq_false h0]
      have hn : 0 < ns.length := List.length_pos_iff.mpr h0
      have em : (k : Int) % ((ns.map V.int).length : Int) = ((k % ns.length : Nat) : Int) := by rw [List.length_map]; exact (Int.natCast_emod _ _).symm
      have ed : (k : Int) / ((ns.map V.int).length : Int) = ((k / ns.length : Nat) : Int) := by rw [List.length_map]; exact (Int.natCast_ediv _ _).symm
      have hm : k % ns.length < ns.length := Nat.mod_lt _ hn
      refine ⟨_, rfl, iteF ⟨_, rfl, _, rfl, _, rfl, _, _, rfl, .inl (x.seq ha), _, _, rfl, rfl, ?_, _, _, _, .int (ns.getD (k % ns.length) 0), rfl, rfl, x.seq ha, ?_, _, rfl, _, rfl, _, _, rfl, .inl (x.seq ha), _, _, rfl, rfl, ?_, _, _, rfl, rfl, .inr ⟨by decide, by decide⟩, _, _, rfl, rfl, ?_⟩⟩
      · show (0 : Int) < ((ns.map V.int).length : Int)
        rw [List.length_map]
        omega
      · rw [em]
        refine atI_nat ?_
        rw [List.getElem?_map, List.getD_eq_getElem?_getD, List.getElem?_eq_getElem hm]
        rfl
      · refine wide_div (b := 20) ?_ ?_ (by decide) (by decide)
        · rw [List.length_map]
          omega
        · rw [List.length_map]
          omega
      · rw [ed]
        exact q _ x
end
end Tw

set_option maxHeartbeats 4000000
namespace Tw
open PySem PySem.Spec PyProof.Rows L2 LamX
section
variable {P : Program} {w : World} {K : PySem.W.Frag} {mg : Str → Option Value} {base : Heap}
/-! ### signs -/
theorem tfits {k : Nat} (h : k ≤ 100000) : k ≤ sizeLine := Nat.le_trans h (by decide)
def spIsSign (K : PySem.W.Frag) : Sp := fun vs H Q E => ∃ z : Str, vs = [.str z] ∧ z.length ≤ 100000 ∧ (∀ c, z = sg c → Q (.bl (okSg c)) H) ∧ (z.length ≠ 1 → Q (.bl false) H)
theorem ok_is_sign (T : Tx K mg) : OkN P w K mg base ("is_sign", none) 1 ["thing"] (spIsSign K) := by
  refine T.F_is_sign.ok sc_is_sign (fun vs H Q E h => ?_) (fun cdv A outer s H vs Q E hr h => ?_)
  · obtain ⟨z, rfl, _⟩ := h
    rfl
  · obtain ⟨z, rfl, hz, q1, q2⟩ := h
    refine ⟨_, (pss_one (ps_ret (pe_and (pe_cmpR op_eq (pe_callB call_len_str (by rfl) T.z_len b_len (pa_cons (pv 0) pa_nil)) pe_int (nomark _)) (pe_and (pe_chain op_le op_le (pe_callB call_ord (by rfl) T.z_ord b_ord (pa_cons (pe_glob (v := .str _) (by rfl) T.c_FIRST.choose_spec ⟨_, rfl⟩) pa_nil)) (pe_callB call_ord (by rfl) T.z_ord b_ord (pa_cons (pv 0) pa_nil)) (pe_callB call_ord (by rfl) T.z_ord b_ord (pa_cons (pe_glob (v := .str _) (by rfl) T.c_LAST.choose_spec ⟨_, rfl⟩) pa_nil))) (pe_one (pe_cmpR op_ne (pe_callB call_ord (by rfl) T.z_ord b_ord (pa_cons (pv 0) pa_nil)) (pe_glob (v := .int _) (by rfl) T.c_BARRED.choose_spec ⟨_, rfl⟩) (nomark _))))))), ?_⟩
    refine ⟨_, rfl, _, rfl, tfits hz, rfl, _, rfl, ite2 (fun h => ?_) (fun h => ?_)⟩
    · have h := of_decide_eq_true h
      injection h with h
      have h : z.length = 1 := by omega
      obtain ⟨c, rfl⟩ : ∃ c, z = sg c := by
        obtain ⟨l, rfl⟩ : ∃ l, z = S l := ⟨_, S_of z⟩
        rw [S_len] at h
        match l, h with
        | [c], _ => exact ⟨c, rfl⟩
      have q := q1 c rfl
      have f1 : (Str.ofString " ").cps.getD 0 0 = 32 := by decide +kernel
      have f2 : (Str.ofString "~").cps.getD 0 0 = 126 := by decide +kernel
      have f3 : (sg c).cps.getD 0 0 = c := rfl
      refine ⟨_, rfl, by decide +kernel, _, rfl, _, rfl, h, _, _, rfl, rfl, _, rfl, ite2 (fun h1 => ?_) (fun h1 => ?_)⟩
      · rw [f1, f3, decide_eq_true_eq] at h1
        refine ⟨_, rfl, by decide +kernel, _, _, rfl, rfl, _, rfl, ite2 (fun h2 => ?_) (fun h2 => ?_)⟩
        · rw [f2, f3, decide_eq_true_eq] at h2
          refine ⟨_, rfl, _, rfl, h, rfl, ?_⟩
          have e : okSg c = !decide (V.int (((sg c).cps.getD 0 0 : Nat) : Int) = V.int 37) := by
            unfold okSg
            rw [f3, decide_eq_true (show 32 ≤ c by omega), decide_eq_true (show c ≤ 126 by omega), Bool.true_and, Bool.true_and]
            by_cases z : c = 37
            · subst z
              rfl
            · rw [decide_eq_true z, decide_eq_false (fun y => by injection y with y; omega)]
              rfl
          rw [e] at q
          exact q
        · rw [f2, f3] at h2
          have h2 : ¬ c ≤ 126 := fun z => h2 (decide_eq_true (by omega))
          have e : okSg c = false := by
            unfold okSg
            rw [decide_eq_false h2, Bool.and_false, Bool.false_and]
          rw [e] at q
          show _
          have d : decide ((((sg c).cps.getD 0 0 : Nat) : Int) ≤ (((Str.ofString "~").cps.getD 0 0 : Nat) : Int)) = false := decide_eq_false (by rw [f2, f3]; omega)
          exact q
      · rw [f1, f3] at h1
        have h1 : ¬ 32 ≤ c := fun z => h1 (decide_eq_true (by omega))
        have e : okSg c = false := by
          unfold okSg
          rw [decide_eq_false h1, Bool.false_and, Bool.false_and]
        rw [e] at q
        exact ⟨_, rfl, iteF q⟩
    · exact q2 fun z => h (decide_eq_true (by rw [z]; rfl))
def spNeedText (K : PySem.W.Frag) : Sp := fun vs H Q E => ∃ l : List Nat, vs = [.str (S l)] ∧ l.length ≤ 10000 ∧ (goodT l → ∀ H', Xs (tK K) H H' → Q .non H') ∧ (¬ goodT l → ∀ H', Xs (tK K) H H' → E (.ref (He.ga K "BadText")) none H')
theorem ok_need_text (T : Tx K mg) : OkN P w K mg base ("need_text", none) 2 ["text"] (spNeedText K) := by
  refine T.F_need_text.ok sc_need_text (fun vs H Q E h => ?_) (fun cdv A outer s H vs Q E hr h => ?_)
  · obtain ⟨l, rfl, _⟩ := h
    rfl
  · obtain ⟨l, rfl, hl, q1, q2⟩ := h
    refine ⟨_, (pss_one (ps_if (PW.pt (pw_or (pt_cmpR op_gt (pe_callB call_len_str (by rfl) T.z_len b_len (pa_cons (pv 0) pa_nil)) (pe_glob (v := .int _) (by rfl) T.c_MOST.choose_spec ⟨_, rfl⟩) (nomark _)) (pw_or1 (pt_not (pt_val (pe_callB (cr_allK (K := K) rfl rfl) (by rfl) T.z_all b_all (pa_cons (pe_lc (own := [("sign", 1)]) rfl sc_need_text.nd (pi_str (pv 0)) (blkOk_by (N := N_need_text) (sc := defScope s_need_text) (by decide +kernel)) (fun _ _ _ _ _ => (pg_name (i := 1) sc_need_text.nd rfl (.inl rfl))) (fun _ _ _ _ _ => pts_nil) (fun _ _ _ _ _ => (pe_callS (ok_is_sign T) (hr.mono (by decide)) (by rfl) T.g_is_sign T.F_is_sign.kp T.B_is_sign ps0 (pa_cons (pv 1) pa_nil)))) pa_nil)))))))
    (pss_one (ps_rz T.x_BadText rfl (by decide))) pss_nil)), ?_⟩
    refine ⟨_, rfl, _, rfl, by rw [S_len]; exact tfits (by omega), _, _, rfl, rfl, _, rfl, ite2 (fun h => ?_) (fun h => ?_)⟩
    · have h := of_decide_eq_true h
      rw [S_len] at h
      exact iteT (q2 (fun g => by have := g.1; omega) H .refl)
    · rw [S_len] at h
      have hl2 : l.length ≤ 512 := by
        by_cases z : l.length ≤ 512
        · exact z
        · exact absurd (decide_eq_true (by omega)) h
      refine ⟨_, rfl, _, rfl, fun D hD => lcPs (T := tK K) w_str hD (by omega) (fun _ _ => trivial) (fun i => .bl (okSg (l.getD i 0))) ?_ fun H2 x2 e2 => ?_⟩
      · intro i x H' hi hy x1 Q q
        obtain ⟨c, hc, rfl⟩ := hy
        have e : l.getD i 0 = c := by rw [List.getD_eq_getElem?_getD, hc]; rfl
        rw [e] at q
        refine ⟨_, rfl, sg c, rfl, by show (S [c]).length ≤ _; rw [S_len]; exact (by decide : 1 ≤ 100000), fun c2 h2 => ?_, fun h2 => absurd (S_len [c]) h2⟩
        rw [← sg_inj h2]
        exact q _ .refl
      · have eb : ((List.range l.length).map fun i => V.bl (okSg (l.getD i 0))) = (l.map okSg).map V.bl := by
          have := kept_gen 0 (fun _ => true) (fun c => V.bl (okSg c)) l
          rw [kept_all] at this
          rw [this, List.filter_eq_self.mpr (fun _ _ => rfl), List.map_map]
          rfl
        rw [eb] at e2
        refine ⟨D, l.map okSg, rfl, SqL.of e2, _, rfl, ite2 (fun h3 => ?_) (fun h3 => ?_)⟩
        · refine q2 (fun g => ?_) H2 x2
          have : ((l.map okSg).all id) = true := by
            rw [List.all_map, List.all_eq_true]
            exact g.2
          rw [this] at h3
          cases h3
        · refine q1 ⟨hl2, fun c hc => ?_⟩ H2 x2
          cases z : (l.map okSg).all id with
          | true =>
            rw [List.all_map, List.all_eq_true] at z
            exact z c hc
          | false =>
            rw [z] at h3
            exact absurd rfl h3
def spLetters (K : PySem.W.Frag) : Sp := fun vs H Q E => ∃ l : List Nat, vs = [.str (S l)] ∧ l.length ≤ 512 ∧ (∀ c ∈ l, c < 128) ∧ ∀ H', Xs (tK K) H H' → Q (.str (S (ltr l))) H'
theorem ok_letters_of (T : Tx K mg) : OkN P w K mg base ("letters_of", none) 1 ["text"] (spLetters K) := by
  refine T.F_letters_of.ok sc_letters_of (fun vs H Q E h => ?_) (fun cdv A outer s H vs Q E hr h => ?_)
  · obtain ⟨l, rfl, _⟩ := h
    rfl
  · obtain ⟨l, rfl, hl, hc, q⟩ := h
    refine ⟨_, (pss_one (ps_ret (pe_joinK (K := K) rfl pe_str (pe_sortSet rfl (by rfl) T.z_sorted (by rfl) T.z_set (pv 0)) (by rfl) (by rfl) (by rfl)))), ?_⟩
    have lz : (S l).cps.size = l.length := S_len l
    refine ⟨⟨_, rfl⟩, _, rfl, S l, rfl, Nat.lt_of_le_of_lt (show (S l).cps.size + 1 ≤ 513 by omega) (by decide), fun ys p s nd m np => ?_⟩
    have e := letters_are hc s nd m
    subst e
    have ll := ltr_len l
    have x2 : Xs (tK K) H (upd H p (.lst (((ltr l).map sg).map V.str))) := .new np
    refine ⟨S [], p, (ltr l).map sg, rfl, rfl, .inl (SqL.of (upd_same ..)), ?_, ?_⟩
    · have h1 : ((ltr l).map sg).map Str.length = (ltr l).map fun _ => 1 := by
        rw [List.map_map]
        exact List.map_congr_left fun c _ => S_len [c]
      rw [h1, List.length_map]
      have h2 : ((ltr l).map fun _ => 1).sum = (ltr l).length := by
        rw [List.map_const', List.sum_replicate_nat, Nat.mul_one]
      rw [h2]
      exact Nat.le_trans (show _ ≤ 128 by rw [S_len]; simp; omega) (by decide)
    · have h2 : ((ltr l).map fun c => [c]).flatten = ltr l := by
        induction ltr l with
        | nil => rfl
        | cons a t ih => rw [List.map_cons, List.flatten_cons, ih]; rfl
      have ej : Txt.join (S []) ((ltr l).map sg) = S (ltr l) := by
        rw [show (ltr l).map sg = ((ltr l).map fun c => [c]).map S by rw [List.map_map]; rfl, join_S, h2]
      rw [ej]
      exact q _ x2
end
end Tw

set_option maxHeartbeats 4000000
namespace Tw
open PySem PySem.Spec PyProof.Rows L2 LamX
section
variable {P : Program} {w : World} {K : PySem.W.Frag} {mg : Str → Option Value} {base : Heap}
theorem nfits {k : Nat} (h : k ≤ 100000) : k ≤ sizeLine := Nat.le_trans h (by decide)
def spIsCount (K : PySem.W.Frag) : Sp := fun vs H Q E => ∃ v : V, vs = [v] ∧ CvOk v ∧ Q (.bl (cV v)) H
theorem ok_is_count (T : Tx K mg) : OkN P w K mg base ("is_count", none) 1 ["thing"] (spIsCount K) := by
  refine T.F_is_count.ok sc_is_count (fun vs H Q E h => ?_) (fun cdv A outer s H vs Q E hr h => ?_)
  · obtain ⟨v, rfl, _⟩ := h
    rfl
  · obtain ⟨v, rfl, hv, q⟩ := h
    refine ⟨_, (pss_one (ps_ret (pe_and (pe_callB (call_isiK (K := K) rfl) (by rfl) T.z_isinstance b_isinstance (pa_cons (pv 0) (pa_cons (pe_bltn (v := .ty _) (by rfl) T.z_int b_int rfl) pa_nil))) (pe_and (pe_not (pe_callB (call_isiK (K := K) rfl) (by rfl) T.z_isinstance b_isinstance (pa_cons (pv 0) (pa_cons (pe_bltn (v := .ty _) (by rfl) T.z_bool b_bool rfl) pa_nil)))) (pe_one (pe_cmpR op_gt (pv 0) pe_int (nomark _))))))), ?_⟩
    rcases hv with ⟨n, rfl⟩ | ⟨b, rfl⟩ | rfl
    · exact ⟨_, rfl, _, _, _, _, true, rfl, .ty "int", .base (.int n), by rfl, _, rfl, iteT ⟨_, rfl, _, _, _, _, false, rfl, .ty "bool", .base (.int n), by rfl, _, rfl, _, rfl, iteT ⟨_, rfl, _, _, rfl, rfl, q⟩⟩⟩
    · exact ⟨_, rfl, _, _, _, _, true, rfl, .ty "int", .base (.bl b), by rfl, _, rfl, iteT ⟨_, rfl, _, _, _, _, true, rfl, .ty "bool", .base (.bl b), by rfl, _, rfl, _, rfl, iteF q⟩⟩
    · exact ⟨_, rfl, _, _, _, _, false, rfl, .ty "int", .base .non, by rfl, _, rfl, iteF q⟩
def spNeedCounts (K : PySem.W.Frag) : Sp := fun vs H Q E => ∃ (a : Addr) (xs : List V), vs = [.ref a] ∧ SqL K H a xs ∧ xs.length ≤ 1000 ∧ (∀ x ∈ xs, CvOk x) ∧
  (∀ cs, xs = cs.map nV → GoodC cs → ∀ H', Xs (tK K) H H' → Q .non H') ∧ ((∀ cs, xs = cs.map nV → ¬ GoodC cs) → ∀ H', Xs (tK K) H H' → E (.ref (He.ga K "BadNumber")) none H')
theorem ok_need_counts (T : Tx K mg) : OkN P w K mg base ("need_counts", none) 2 ["counts"] (spNeedCounts K) := by
  refine T.F_need_counts.ok sc_need_counts (fun vs H Q E h => ?_) (fun cdv A outer s H vs Q E hr h => ?_)
  · obtain ⟨a, xs, rfl, _⟩ := h
    rfl
  · obtain ⟨a, xs, rfl, hxs, hl, hok, q1, q2⟩ := h
    refine ⟨_, (pss_one (ps_if (PW.pt (pw_or (pt_not (pt_chain op_le op_le pe_int (pe_callB (call_len_seqK (K := K) rfl) (by rfl) T.z_len b_len (pa_cons (pv 0) pa_nil)) (pe_glob (v := .int _) (by rfl) T.c_MOST_COUNTS.choose_spec ⟨_, rfl⟩))) (pw_or1 (pt_not (pt_val (pe_callB (cr_allK (K := K) rfl rfl) (by rfl) T.z_all b_all (pa_cons (pe_lc (own := [("count", 1)]) rfl sc_need_counts.nd (pi_listK (K := K) rfl (pv 0)) (blkOk_by (N := N_need_counts) (sc := defScope s_need_counts) (by decide +kernel)) (fun _ _ _ _ _ => (pg_name (i := 1) sc_need_counts.nd rfl (.inl rfl))) (fun _ _ _ _ _ => pts_nil) (fun _ _ _ _ _ => (pe_callS (ok_is_count T) (hr.mono (by decide)) (by rfl) T.g_is_count T.F_is_count.kp T.B_is_count ps0 (pa_cons (pv 1) pa_nil)))) pa_nil)))))))
    (pss_one (ps_rz T.x_BadNumber rfl (by decide))) pss_nil)), ?_⟩
    refine ⟨_, rfl, a, _, rfl, .inl hxs, _, _, rfl, rfl, _, rfl, ite2 (fun h1 => ?_) (fun h1 => ?_)⟩
    · have h1 := of_decide_eq_true h1
      refine ⟨_, _, rfl, rfl, _, rfl, ite2 (fun h2 => ?_) (fun h2 => ?_)⟩
      · refine iteT (q2 (fun cs e g => ?_) H .refl)
        have hl2 : xs.length = cs.length := by rw [e, List.length_map]
        rw [decide_eq_true (by have := g.2.1; omega)] at h2
        cases h2
      · have h3 : (xs.length : Int) ≤ 94 := by
          by_cases h3 : (xs.length : Int) ≤ 94
          · exact h3
          · exact absurd (by rw [decide_eq_false h3]; rfl) h2
        refine ⟨_, rfl, a, rfl, ⟨_, hxs⟩, fun D hD => lcPs (T := tK K) w_list hD (by omega) (fun _ x => x.seq hxs) (fun i => .bl (cV (xs.getD i .non))) ?_ fun H2 x2 e2 => ?_⟩
        · intro i x H' hi hy x1 Q q
          have e : xs.getD i .non = x := by rw [List.getD_eq_getElem?_getD, hy]; rfl
          rw [e] at q
          exact ⟨_, rfl, x, rfl, hok x (List.mem_of_getElem? hy), q _ .refl⟩
        · have eb : ((List.range xs.length).map fun i => V.bl (cV (xs.getD i .non))) = (xs.map cV).map V.bl := by
            have := kept_gen V.non (fun _ => true) (fun c => V.bl (cV c)) xs
            rw [kept_all] at this
            rw [this, List.filter_eq_self.mpr (fun _ _ => rfl), List.map_map]
            rfl
          rw [eb] at e2
          refine ⟨D, xs.map cV, rfl, SqL.of e2, _, rfl, ite2 (fun h4 => ?_) (fun h4 => ?_)⟩
          · refine q2 (fun cs e g => ?_) H2 x2
            have : ((xs.map cV).all id) = true := by
              rw [List.all_map, List.all_eq_true]
              intro x hx
              rw [e] at hx
              exact cV_nV g.2.2 x hx
            rw [this] at h4
            cases h4
          · have h5 : ∀ x ∈ xs, cV x = true := by
              cases z : (xs.map cV).all id with
              | true =>
                rw [List.all_map, List.all_eq_true] at z
                exact z
              | false =>
                rw [z] at h4
                exact absurd rfl h4
            obtain ⟨cs, e, hc⟩ := counts_of h5
            have hl2 : xs.length = cs.length := by rw [e, List.length_map]
            exact q1 cs e ⟨by omega, by omega, hc⟩ H2 x2
    · refine ⟨_, rfl, iteT (iteT (q2 (fun cs e g => h1 (decide_eq_true ?_)) H .refl))⟩
      have hl2 : xs.length = cs.length := by rw [e, List.length_map]
      have := g.1
      omega
def spLengths (K : PySem.W.Frag) : Sp := fun vs H Q E => ∃ (a : Addr) (xs : List V), vs = [.ref a] ∧ SqL K H a xs ∧ xs.length ≤ 1000 ∧ (∀ x ∈ xs, CvOk x) ∧
  (∀ cs, xs = cs.map nV → GoodC cs → ∀ H' p, Xt (tK K) H H' → Nw H p → H' p = some (.lst ((lens cs).map nV)) → Q (.ref p) H') ∧ ((∀ cs, xs = cs.map nV → ¬ GoodC cs) → ∀ H', Xt (tK K) H H' → E (.ref (He.ga K "BadNumber")) none H')
theorem ok_lengths (T : Tx K mg) : OkN P w K mg base ("lengths", none) 3 ["counts"] (spLengths K) := by
  refine T.F_lengths.ok sc_lengths (fun vs H Q E h => ?_) (fun cdv A outer s H vs Q E hr h => ?_)
  · obtain ⟨a, xs, rfl, _⟩ := h
    rfl
  · obtain ⟨a, xs, rfl, hxs, hl, hok, q1, q2⟩ := h
    refine ⟨_, (pss_cons (ps_expr (pe_callS (ok_need_counts T) (hr.mono (by decide)) (by rfl) T.g_need_counts T.F_need_counts.kp T.B_need_counts psE (pa_cons (pv 0) pa_nil)))
    (pss_cons (ps_set (i := 1) sc_lengths.nd rfl (.inl rfl) (pe_op op_rep (pe_lst (pa_cons pe_int pa_nil)) (pe_callB (call_len_seqK (K := K) rfl) (by rfl) T.z_len b_len (pa_cons (pv 0) pa_nil))))
    (pss_cons (ps_setLc (i := 2) (own := [("at", 3), ("count", 4)]) rfl sc_lengths.nd rfl rfl (sw_true rfl rfl rfl (by decide +kernel)) (pi_enumK (K := K) rfl (by rfl) T.z_enumerate (pa_cons (pv 0) pa_nil) (by rfl)) (blkOk_by (N := N_lengths) (sc := defScope s_lengths) (by decide +kernel)) (fun _ _ _ _ _ => (pg_tupK (K := K) (n := 2) rfl rfl (pgs_cons (pg_name (i := 3) sc_lengths.nd rfl (.inl rfl)) (pgs_cons (pg_name (i := 4) sc_lengths.nd rfl (.inl rfl)) pgs_nil)) (by rfl) (by rfl))) (fun _ _ _ _ _ => pts_nil) (fun _ _ _ _ _ => (pe_tup (pa_cons (pv 4) (pa_cons (pv 3) (pa_cons (pe_lst (pa_cons (pv 3) pa_nil)) pa_nil))))))
    (pss_cons (ps_while (passes_of rfl) (pt_cmpR op_gt (pe_callB (call_len_seqK (K := K) rfl) (by rfl) T.z_len b_len (pa_cons (pv 2) pa_nil)) pe_int (nomark _))
    (pss_cons (ps_set (i := 2) sc_lengths.nd rfl (.inl rfl) (pe_callB (cr_sortDat (K := K) rfl hr.units) (by rfl) T.z_sorted b_sorted (pa_cons (pv 2) pa_nil)))
    (pss_cons (ps_asg (pe_slice (sl_listK (K := K) rfl) (pv 2) po_none (po_some pe_int)) (pg_lstK (K := K) (n := 2) rfl rfl (pgs_cons (pg_name (i := 5) sc_lengths.nd rfl (.inl rfl)) (pgs_cons (pg_name (i := 6) sc_lengths.nd rfl (.inl rfl)) pgs_nil)) (by rfl) (by rfl)))
    (pss_cons (ps_for (passes_of rfl) rfl (pi_listK (K := K) rfl (pe_op op_cat (pe_ix (ix_tupK (K := K) rfl) (pv 5) pe_int (fun _ _ => rfl)) (pe_ix (ix_tupK (K := K) rfl) (pv 6) pe_int (fun _ _ => rfl)))) (pg_name (i := 3) sc_lengths.nd rfl (.inl rfl))
    (pss_one (ps_asg (pe_op op_add (pe_ix (ix_listK (K := K) rfl) (pv 1) (pv 3) (fun _ _ => rfl)) pe_int) (pg_sub (pv 1) (pv 3) set_list))))
    (pss_one (ps_set (i := 2) sc_lengths.nd rfl (.inl rfl) (pe_op op_cat (pe_slice (sl_listK (K := K) rfl) (pv 2) (po_some pe_int) po_none) (pe_lst (pa_cons (pe_tup (pa_cons (pe_op op_add (pe_ix (ix_tupK (K := K) rfl) (pv 5) pe_int (fun _ _ => rfl)) (pe_ix (ix_tupK (K := K) rfl) (pv 6) pe_int (fun _ _ => rfl))) (pa_cons (pe_callB (call_min2 rfl) (by rfl) T.z_min b_min (pa_cons (pe_ix (ix_tupK (K := K) rfl) (pv 5) pe_int (fun _ _ => rfl)) (pa_cons (pe_ix (ix_tupK (K := K) rfl) (pv 6) pe_int (fun _ _ => rfl)) pa_nil))) (pa_cons (pe_op op_cat (pe_ix (ix_tupK (K := K) rfl) (pv 5) pe_int (fun _ _ => rfl)) (pe_ix (ix_tupK (K := K) rfl) (pv 6) pe_int (fun _ _ => rfl))) pa_nil)))) pa_nil)))))))))
    (pss_one (ps_ret (pv 1))))))), ?_⟩
    refine ⟨_, rfl, a, xs, rfl, hxs, hl, hok, fun cs ecs g H1 x1 => ?_, fun bad H1 x1 => q2 bad H1 x1.up⟩
    have q3 := q1 cs ecs g
    subst ecs
    obtain ⟨g1, g2, g3⟩ := g
    have x1 := Xg.up x1
    -- the lengths found
    refine ⟨by exact (by decide : 1 ≤ sizeLine), fun f0 n0 => ?_⟩
    generalize hH : upd H1 f0 _ = H2
    have y2 := newE (lo := True) (T := tK K) hH n0
    have e0 := atE hH
    have x2 := x1.trans y2
    clear hH n0 y2
    refine ⟨_, rfl, a, _, rfl, .inl (x2.seq hxs), f0, _, _, rfl, rfl, e0, by omega, by rw [List.length_map]; omega, by show 1 * _ ≤ _; rw [List.length_map]; exact nfits (by omega), fun f nf => ?_⟩
    generalize hH : upd H2 f _ = H3
    have y3 := newE (lo := True) (T := tK K) hH nf
    have ef : H3 f = some (.lst ((startH cs).2.map nV)) := by
      rw [atE hH, List.length_map]
      show some (HO.lst (List.replicate cs.length [V.int 0]).flatten) = some (HO.lst ((List.replicate cs.length 0).map nV))
      rw [rep_flatV, List.map_replicate]
      rfl
    have nwf : Nw H f := x2.nw (.of nf)
    have x3 := x2.trans y3
    clear hH nf e0 y3
    -- a heap of each
    have hxs3 := x3.seq hxs
    have zl : cs.zipIdx.length = cs.length := List.length_zipIdx
    refine ⟨_, rfl, a, _, rfl, hxs3, fun D hD => lcT (lo := True) (T := tK K) (j := 3) (k := 4) (fun i vs H' => H' f = some (.lst ((startH cs).2.map nV)) ∧ ∃ qs : List (V × Hx), vs = qs.map Prod.fst ∧ qs.map Prod.snd = (startH cs).1.take i ∧ ∀ q ∈ qs, HeapAt H' [f, D] q) w_enum (by decide) hD (by rw [List.length_map]; omega) (fun _ x => x.seq hxs3)
      (fun T x y σ H Q e q => ⟨T, _, rfl, .inl (.inl e), rfl, _, _, rfl, _, _, rfl, rfl, q⟩) ⟨(Xt.new (T := tK K) hD).lst ef, [], rfl, rfl, fun q h => by cases h⟩ (fun i vs H' H'' p x => ?_) ?_ fun H4 vs x4 p4 l4 e4 => ?_⟩
    · obtain ⟨p0, qs, p1, p2, p3⟩ := p
      exact ⟨x.lst p0, qs, p1, p2, fun q hq => (p3 q hq).xg x⟩
    · intro i x y H' vs hi hx hy x4 p e4 Q q
      obtain ⟨p0, qs, rfl, p2, p3⟩ := p
      cases hx
      rw [List.getElem?_map] at hy
      obtain ⟨c, hc, rfl⟩ := Option.map_eq_some_iff.mp hy
      have hDf : D ≠ f := fun z => by rw [z, ef] at hD; cases hD
      refine ⟨_, rfl, _, rfl, _, rfl, by exact (by decide : 1 ≤ sizeLine), fun pm nm => ?_⟩
      generalize hH : upd H' pm _ = H5
      have y5 := newE (lo := True) (T := tK K) hH nm
      have em := atE hH
      clear hH
      refine ⟨by exact (by decide : 3 ≤ sizeLine), fun pt nt => ?_⟩
      generalize hH : upd H5 pt _ = H6
      have y6 := newE (lo := True) (T := tK K) hH nt
      have et := atE hH
      clear hH
      have em := y6.lst em
      have f5 := y5.lst p0
      have d5 := y5.lst e4
      have mf : pm ≠ f := fun z => by rw [z, p0] at nm; cases nm
      have mD : pm ≠ D := fun z => by rw [z, e4] at nm; cases nm
      have tf : pt ≠ f := fun z => by rw [z, f5] at nt; cases nt
      have tD : pt ≠ D := fun z => by rw [z, d5] at nt; cases nt
      refine q (.ref pt) H6 (y5.trans y6) ⟨by rw [upd_ne (Ne.symm hDf)]; exact y6.lst f5, qs ++ [(.ref pt, (c, i, [i]))], by rw [List.map_append]; rfl, ?_, fun q hq => ?_⟩
      · rw [List.map_append, p2, List.take_add_one]
        congr 1
        show [((c, i, [i]) : Hx)] = (((cs.zipIdx.map fun p => ((p.1, p.2, [p.2]) : Hx))[i]?).toList)
        rw [List.getElem?_map, List.getElem?_zipIdx, hc]
        simp
      · rcases List.mem_append.mp hq with hq | hq
        · exact ((p3 q hq).xg (y5.trans y6)).upd (by simp)
        · rw [List.mem_singleton.mp hq]
          exact HeapAt.upd ⟨pt, pm, rfl, by simp [tf, tD], by simp [mf, mD], et, em⟩ (by simp)
    obtain ⟨ef4, qs, rfl, p2, p3⟩ := p4
    rw [List.length_map] at l4 p2
    have hs0 : (startH cs).1.length = cs.length := by
      show (cs.zipIdx.map _).length = _
      rw [List.length_map, zl]
    rw [List.take_of_length_le (by rw [hs0]; exact Nat.le_refl _)] at p2
    have hDf : D ≠ f := fun z => by rw [z, ef] at hD; cases hD
    have x4 := x3.trans x4
    clear ef hxs3 x3 hD
    -- joined again and again
    refine ⟨fun m σ H' => ∃ (k : Nat) (hp : Addr) (qs : List (V × Hx)) (t3 t4 t5 t6 : Option V), m + k = cs.length ∧ k < cs.length ∧ Xt (tK K) H H' ∧ H' f = some (.lst ((runH cs k).2.map nV)) ∧ hp ≠ f ∧ H' hp = some (.lst (qs.map Prod.fst)) ∧ qs.map Prod.snd = (runH cs k).1 ∧ (∀ q ∈ qs, HeapAt H' [f] q) ∧ σ = [some (.ref a), some (.ref f), some (.ref hp), t3, t4, t5, t6],
      ⟨cs.length, 0, D, qs, _, _, _, _, rfl, by omega, x4, ef4, hDf, e4, p2, fun q hq => (p3 q hq).less (by simp), rfl⟩, fun m σ H' hW => ?_⟩
    obtain ⟨k, hp, qs, t3, t4, t5, t6, hm, hk, x5, ef, hpf, ehp, p2, p3, rfl⟩ := hW
    clear x4 ef4 e4 hDf
    have J := jn_run g2 k hk
    have lqs : qs.length = cs.length - k := by
      have := J.many
      rw [← p2, List.length_map] at this
      exact this
    refine ⟨_, rfl, hp, _, rfl, .inl (SqL.of ehp), _, _, rfl, rfl, _, rfl, ite2 (fun e => ?_) (fun e => ?_)⟩
    · have e := of_decide_eq_true e
      rw [List.length_map, lqs] at e
      refine ⟨fun σ' H'' => ∃ m', m' < m ∧ ∃ (k : Nat) (hp : Addr) (qs : List (V × Hx)) (t3 t4 t5 t6 : Option V), m' + k = cs.length ∧ k < cs.length ∧ Xt (tK K) H H'' ∧ H'' f = some (.lst ((runH cs k).2.map nV)) ∧ hp ≠ f ∧ H'' hp = some (.lst (qs.map Prod.fst)) ∧ qs.map Prod.snd = (runH cs k).1 ∧ (∀ q ∈ qs, HeapAt H'' [f] q) ∧ σ' = [some (.ref a), some (.ref f), some (.ref hp), t3, t4, t5, t6], fun _ _ h => h, ?_⟩
      -- sorted
      refine ⟨_, rfl, hp, qs.map encQ, rfl, SqL.of (by rw [ehp, List.map_map]; rfl), fun b hb => ?_, encH_alike qs, encH_sortable qs, fun b hb => ?_, fun p5 n5 => ?_⟩
      · obtain ⟨q, hq, rfl⟩ := List.mem_map.mp hb
        exact (p3 q hq).dp
      · obtain ⟨q, hq, rfl⟩ := List.mem_map.mp hb
        exact encH_depth q.2
      rw [srtQ_enc]
      have hsr := srtQ_snd qs
      rw [p2] at hsr
      have hmem : ∀ q ∈ srtQ qs, HeapAt H' [f] q := fun q hq => p3 q (srtQ_mem.mp hq)
      have lsr : (srtQ qs).length = qs.length := List.length_mergeSort ..
      generalize srtQ qs = rs at hsr hmem lsr ⊢
      obtain ⟨qa, qb, qr, rfl⟩ : ∃ qa qb qr, rs = qa :: qb :: qr := by
        match rs, lsr with
        | [], h => simp at h; omega
        | [_], h => simp at h; omega
        | qa :: qb :: qr, _ => exact ⟨qa, qb, qr, rfl⟩
      have hsr : srtH (runH cs k).1 = qa.2 :: qb.2 :: qr.map Prod.snd := hsr.symm
      obtain ⟨jm1, jm2⟩ := jn_mem J hsr
      have erun : runH cs (k + 1) = (qr.map Prod.snd ++ [jn qa.2 qb.2], bumps (runH cs k).2 (qa.2.2.2 ++ qb.2.2.2)) := by
        show stepH (runH cs k) = _
        unfold stepH
        rw [hsr]
      generalize hH : upd H' p5 _ = H5
      have y5 := newE (lo := True) (T := tK K) hH n5
      have e5 : H5 p5 = some (.lst ((qa :: qb :: qr).map Prod.fst)) := atE hH
      have p5f : p5 ≠ f := fun z => by rw [z, ef] at n5; cases n5
      have ef := y5.lst ef
      have hmem : ∀ q ∈ qa :: qb :: qr, HeapAt H5 [f] q := fun q hq => (hmem q hq).xg y5
      have x5 := x5.trans y5
      clear hH n5 y5 p3 ehp p2 lqs hpf
      obtain ⟨ta, ma, eqa, nta, nma, eta, ema⟩ := hmem qa (by simp)
      obtain ⟨tb, mb, eqb, ntb, nmb, etb, emb⟩ := hmem qb (by simp)
      -- the two least
      refine ⟨_, rfl, _, rfl, p5, _, rfl, SqL.of e5, fun p6 n6 => ?_⟩
      generalize hH : upd H5 p6 _ = H6
      have y6 := newE (lo := True) (T := tK K) hH n6
      have e6 : H6 p6 = some (.lst [.ref ta, .ref tb]) := by
        rw [atE hH]
        refine (congrArg (fun z => some (HO.lst z)) (cut_take _ 2)).trans ?_
        rw [← eqa, ← eqb]
        rfl
      clear hH n6
      have e5 := y6.lst e5
      have ef := y6.lst ef
      have eta := y6.tup eta
      have etb := y6.tup etb
      have ema := y6.lst ema
      have emb := y6.lst emb
      have hmem : ∀ q ∈ qa :: qb :: qr, HeapAt H6 [f] q := fun q hq => (hmem q hq).xg y6
      have x6 := x5.trans y6
      refine ⟨p6, _, rfl, SqL.of e6, rfl, _, _, rfl, _, _, rfl, rfl, ?_⟩
      -- one more for each of them
      refine ⟨_, rfl, ta, _, 2, .ref ma, rfl, rfl, .inl (.inl eta), atI_nat (j := 2) rfl, _, rfl, tb, _, 2, .ref mb, rfl, rfl, .inl (.inl etb), atI_nat (j := 2) rfl, _, _, _, _, rfl, rfl, ema, emb, by rw [List.length_map, List.length_map]; exact nfits (by omega), fun p7 n7 => ?_⟩
      generalize hH : upd H6 p7 _ = H7
      have y7 := newE (lo := True) (T := tK K) hH n7
      have e7 : H7 p7 = some (.lst ((qa.2.2.2 ++ qb.2.2.2).map nV)) := by rw [atE hH, List.map_append]
      have p7f : p7 ≠ f := fun z => by rw [z, ef] at n7; cases n7
      clear hH n7
      have e5 := y7.lst e5
      have ef := y7.lst ef
      have hmem : ∀ q ∈ qa :: qb :: qr, HeapAt H7 [f] q := fun q hq => (hmem q hq).xg y7
      have x7 := x6.trans y7
      clear y6 y7 x5 x6 eta etb ema emb e6
      have lf := J.len
      generalize hfk : (runH cs k).2 = fk at ef erun lf
      generalize hjs : qa.2.2.2 ++ qb.2.2.2 = js at e7 erun jm2
      have ljs : js.length ≤ cs.length := by rw [← hjs, List.length_append]; exact jm1
      refine ⟨p7, rfl, ⟨_, SqL.of e7⟩, for_it w_list (fun i σ H' => Xt (tK K) H H' ∧ H' f = some (.lst ((bumps fk (js.take i)).map nV)) ∧ H' p5 = some (.lst ((qa :: qb :: qr).map Prod.fst)) ∧ H' p7 = some (.lst (js.map nV)) ∧ (∀ q ∈ qa :: qb :: qr, HeapAt H' [f] q) ∧ ∃ t3, σ = [some (.ref a), some (.ref f), some (.ref p5), t3, t4, some (.ref ta), some (.ref tb)])
        ⟨x7, ef, e5, e7, hmem, _, rfl⟩ (fun _ _ _ _ h => SqL.of h.2.2.2.1) ?_ ?_⟩
      · intro i x σ Ha Hb hi hp2 hy
        obtain ⟨xa, ef, e5, e7, hmem, t3, rfl⟩ := hp2
        obtain ⟨rfl, hx⟩ := hy
        rw [List.getElem?_map] at hx
        obtain ⟨z, hz, rfl⟩ := Option.map_eq_some_iff.mp hx
        have hzl : z < (bumps fk (js.take i)).length := by rw [bumps_len, lf]; exact jm2 z (List.mem_of_getElem? hz)
        have hgz : (bumps fk (js.take i))[z]? = some ((bumps fk (js.take i)).getD z 0) := by rw [List.getD_eq_getElem?_getD, List.getElem?_eq_getElem hzl]; rfl
        refine ⟨_, rfl, _, rfl, f, _, _, nV ((bumps fk (js.take i)).getD z 0), rfl, rfl, SqL.of ef, atI_nat (by rw [List.getElem?_map, hgz]; rfl), _, _, rfl, rfl, _, rfl, _, rfl, f, _, _, z, rfl, rfl, ef, Evl.ixN_nat (by rw [List.length_map]; exact hzl), ?_⟩
        have ej : bumps fk (js.take (i + 1)) = bump (bumps fk (js.take i)) z := by
          unfold bumps
          rw [List.take_add_one, hz, List.foldl_append]
          rfl
        refine ⟨xa.mut nwf ef, ?_, by rw [upd_ne p5f]; exact e5, by rw [upd_ne p7f]; exact e7, fun q hq => (hmem q hq).upd (by simp), _, rfl⟩
        rw [upd_same, ej]
        unfold bump
        rw [List.map_set]
        rfl
      · intro σ Ha hp2
        obtain ⟨xa, ef, e5, e7, hmem, t3, rfl⟩ := hp2
        rw [List.length_map, List.take_of_length_le (Nat.le_refl _)] at ef
        obtain ⟨ta2, ma, eqa2, nta, nma, eta, ema⟩ := hmem qa (by simp)
        obtain ⟨tb2, mb, eqb2, ntb, nmb, etb, emb⟩ := hmem qb (by simp)
        obtain rfl : ta = ta2 := by
          rw [eqa] at eqa2
          injection eqa2
        obtain rfl : tb = tb2 := by
          rw [eqb] at eqb2
          injection eqb2
        refine ⟨_, rfl, _, rfl, p5, _, rfl, SqL.of e5, fun p8 n8 => ?_⟩
        generalize hH : upd Ha p8 _ = H8
        have y8 := newE (lo := True) (T := tK K) hH n8
        have e8 : H8 p8 = some (.lst (qr.map Prod.fst)) := by
          rw [atE hH]
          exact congrArg (fun z => some (HO.lst z)) (cut_drop _ 2)
        clear hH n8
        have ef := y8.lst ef
        have eta := y8.tup eta
        have etb := y8.tup etb
        have ema := y8.lst ema
        have emb := y8.lst emb
        have hmem : ∀ q ∈ qa :: qb :: qr, HeapAt H8 [f] q := fun q hq => (hmem q hq).xg y8
        have x8 := xa.trans y8
        refine ⟨_, rfl, ta, _, 0, _, rfl, rfl, .inl (.inl eta), atI_nat (j := 0) rfl, _, rfl, tb, _, 0, _, rfl, rfl, .inl (.inl etb), atI_nat (j := 0) rfl, _, _, rfl, rfl, ?_⟩
        refine ⟨_, rfl, ta, _, 1, _, rfl, rfl, .inl (.inl eta), atI_nat (j := 1) rfl, _, rfl, tb, _, 1, _, rfl, rfl, .inl (.inl etb), atI_nat (j := 1) rfl, _, _, rfl, ?_⟩
        refine ⟨_, rfl, ta, _, 2, .ref ma, rfl, rfl, .inl (.inl eta), atI_nat (j := 2) rfl, _, rfl, tb, _, 2, .ref mb, rfl, rfl, .inl (.inl etb), atI_nat (j := 2) rfl, _, _, _, _, rfl, rfl, ema, emb, by rw [List.length_map, List.length_map]; exact nfits (by omega), fun p9 n9 => ?_⟩
        generalize hH : upd H8 p9 _ = H9
        have y9 := newE (lo := True) (T := tK K) hH n9
        have e9 : H9 p9 = some (.lst ((qa.2.2.2 ++ qb.2.2.2).map nV)) := by rw [atE hH, List.map_append]
        have p9f : p9 ≠ f := fun z => by rw [z, ef] at n9; cases n9
        clear hH n9
        have ef := y9.lst ef
        have e8 := y9.lst e8
        refine ⟨by exact (by decide : 3 ≤ sizeLine), fun p10 n10 => ?_⟩
        generalize hH : upd H9 p10 _ = H10
        have y10 := newE (lo := True) (T := tK K) hH n10
        have e10 : H10 p10 = some (.tup [nV (jn qa.2 qb.2).1, nV (jn qa.2 qb.2).2.1, .ref p9]) := by
          rw [atE hH]
          have h1 : V.int ((qa.2.1 : Int) + (qb.2.1 : Int)) = nV (jn qa.2 qb.2).1 := rfl
          have h2 : (V.int (if ((qb.2.2.1 : Nat) : Int) < ((qa.2.2.1 : Nat) : Int) then ((qb.2.2.1 : Nat) : Int) else ((qa.2.2.1 : Nat) : Int))) = nV (jn qa.2 qb.2).2.1 := by
            refine congrArg V.int ?_
            show _ = ((min qa.2.2.1 qb.2.2.1 : Nat) : Int)
            split <;> omega
          rw [← h2]
          rfl
        have p10f : p10 ≠ f := fun z => by rw [z, ef] at n10; cases n10
        clear hH n10
        have ef := y10.lst ef
        have e8 := y10.lst e8
        have e9 := y10.lst e9
        refine ⟨by exact (by decide : 1 ≤ sizeLine), fun p11 n11 => ?_⟩
        generalize hH : upd H10 p11 _ = H11
        have y11 := newE (lo := True) (T := tK K) hH n11
        have e11 := atE hH
        clear hH n11
        have ef := y11.lst ef
        have e8 := y11.lst e8
        have e9 := y11.lst e9
        have e10 := y11.tup e10
        refine ⟨_, _, _, _, rfl, rfl, e8, e11, ?_, fun p12 n12 => ?_⟩
        · have h1 : (qa :: qb :: qr).length = qs.length := lsr
          have h2 : qs.length ≤ 94 := by
            rw [← lsr]
            have h3 := congrArg List.length hsr
            rw [(srtH_perm _).length_eq, J.many] at h3
            simp at h3 ⊢
            omega
          rw [List.length_map]
          simp at h1 ⊢
          exact nfits (by omega)
        generalize hH : upd H11 p12 _ = H12
        have y12 := newE (lo := True) (T := tK K) hH n12
        have e12 : H12 p12 = some (.lst ((qr ++ [(V.ref p10, jn qa.2 qb.2)]).map Prod.fst)) := by
          rw [atE hH, List.map_append]
          rfl
        have p12f : p12 ≠ f := fun z => by rw [z, ef] at n12; cases n12
        clear hH n12
        have yy := y9.trans (y10.trans (y11.trans y12))
        refine ⟨m - 1, by omega, k + 1, p12, qr ++ [(V.ref p10, jn qa.2 qb.2)], _, _, _, _, by omega, by omega, x8.trans yy, ?_, p12f, e12, ?_, fun q hq => ?_, rfl⟩
        · rw [y12.lst ef, erun]
        · rw [erun, List.map_append]
          rfl
        · rcases List.mem_append.mp hq with hq | hq
          · exact (hmem q (by simp [hq])).xg yy
          · rw [List.mem_singleton.mp hq]
            exact ⟨p10, p9, rfl, by simp [p10f], by simp [p9f], y12.tup e10, y12.lst e9⟩
    · have e : ¬ (1 < cs.length - k) := fun z => e (decide_eq_true (by rw [List.length_map, lqs]; omega))
      have ek : k = cs.length - 1 := by omega
      rw [ek] at ef
      exact ⟨_, rfl, q3 H' f x5 nwf ef⟩
abbrev toZ (fs : List Nat) : List Int := fs.map fun z : Nat => (z : Int)
theorem toZ_V (fs : List Nat) : (toZ fs).map V.int = fs.map nV := by
  unfold toZ
  rw [List.map_map]
  rfl
theorem toZ_of : ∀ {zs : List Int}, (∀ z ∈ zs, 0 ≤ z) → ∃ fs, zs = toZ fs
  | [], _ => ⟨[], rfl⟩
  | z :: zs, h => by
    obtain ⟨fs, e⟩ := toZ_of (zs := zs) fun y hy => h y (List.mem_cons_of_mem _ hy)
    refine ⟨z.toNat :: fs, ?_⟩
    show z :: zs = ((z.toNat : Nat) : Int) :: toZ fs
    rw [Int.toNat_of_nonneg (h z (List.mem_cons_self ..)), e]
theorem toZ_inj {fs gs : List Nat} (h : toZ fs = toZ gs) : fs = gs := (List.map_inj_right (f := fun z : Nat => (z : Int)) fun x y h => by omega).mp h
theorem shl_val (m z : Nat) (h : z ≤ m) : V.int ((1 : Int) * 2 ^ ((m : Int) - (z : Int)).toNat) = V.int ((2 ^ (m - z) : Nat) : Int) := by
  refine congrArg V.int ?_
  rw [show ((m : Int) - (z : Int)).toNat = m - z by omega, Int.one_mul]
  simp
def spNeedLens (K : PySem.W.Frag) : Sp := fun vs H Q E => ∃ (a : Addr) (zs : List Int), vs = [.ref a] ∧ SqL K H a (zs.map V.int) ∧ zs.length ≤ 1000 ∧
  (∀ fs, zs = toZ fs → Fill fs → ∀ H', Xs (tK K) H H' → Q .non H') ∧ ((∀ fs, zs = toZ fs → ¬ Fill fs) → ∀ H', Xs (tK K) H H' → E (.ref (He.ga K "BadCode")) none H')
theorem ok_need_lengths (T : Tx K mg) : OkN P w K mg base ("need_lengths", none) 1 ["some"] (spNeedLens K) := by
  refine T.F_need_lengths.ok sc_need_lengths (fun vs H Q E h => ?_) (fun cdv A outer s H vs Q E hr h => ?_)
  · obtain ⟨a, zs, rfl, _⟩ := h
    rfl
  · obtain ⟨a, zs, rfl, hxs, hl, q1, q2⟩ := h
    refine ⟨_, (pss_cons (ps_if (PW.pt (pw_or (pt_cmpR (op_eqDK (K := K) rfl hr.units) (pv 0) (pe_lst pa_nil) (nomark _)) (pw_or1 (pt_not (pt_val (pe_callB (cr_allK (K := K) rfl rfl) (by rfl) T.z_all b_all (pa_cons (pe_lc (own := [("one", 1)]) rfl sc_need_lengths.nd (pi_listK (K := K) rfl (pv 0)) (blkOk_by (N := N_need_lengths) (sc := defScope s_need_lengths) (by decide +kernel)) (fun _ _ _ _ _ => (pg_name (i := 1) sc_need_lengths.nd rfl (.inl rfl))) (fun _ _ _ _ _ => pts_nil) (fun _ _ _ _ _ => (pe_and (pe_callB (call_isiK (K := K) rfl) (by rfl) T.z_isinstance b_isinstance (pa_cons (pv 1) (pa_cons (pe_bltn (v := .ty _) (by rfl) T.z_int b_int rfl) pa_nil))) (pe_one (pe_chain op_le op_le pe_int (pv 1) (pe_glob (v := .int _) (by rfl) T.c_MOST_COUNTS.choose_spec ⟨_, rfl⟩)))))) pa_nil)))))))
    (pss_one (ps_rz T.x_BadCode rfl (by decide))) pss_nil)
    (pss_cons (ps_set (i := 2) sc_need_lengths.nd rfl (.inr rfl) (pe_callB (cr_maxK (K := K) rfl rfl) (by rfl) T.z_max b_max (pa_cons (pv 0) pa_nil)))
    (pss_one (ps_if (pt_cmpR op_ne (pe_callB (cr_sumK (K := K) rfl rfl) (by rfl) T.z_sum b_sum (pa_cons (pe_lc (own := [("one", 1)]) rfl sc_need_lengths.nd (pi_listK (K := K) rfl (pv 0)) (blkOk_by (N := N_need_lengths) (sc := defScope s_need_lengths) (by decide +kernel)) (fun _ _ _ _ _ => (pg_name (i := 1) sc_need_lengths.nd rfl (.inl rfl))) (fun _ _ _ _ _ => pts_nil) (fun _ _ _ _ _ => (pe_op op_shl pe_int (pe_op op_sub (pv 2) (pv 1))))) pa_nil)) (pe_op op_shl pe_int (pv 2)) (nomark _))
    (pss_one (ps_rz T.x_BadCode rfl (by decide))) pss_nil)))), ?_⟩
    refine ⟨_, rfl, by exact (by decide : 0 ≤ sizeLine), fun p0 n0 => ?_⟩
    generalize hH : upd H p0 _ = H1
    have x1 : Xs (tK K) H H1 := newE hH n0
    have e0 : H1 p0 = some (.lst (([] : List Int).map V.int)) := atE hH
    clear hH n0
    have hxs1 := x1.seq hxs
    by_cases hz0 : zs = []
    · subst hz0
      refine eqD_same (d := .list (([] : List Int).map .int)) (dp_ints hxs1) (dp_ints (SqL.of e0)) (sh_ints (n := 63)) ⟨_, rfl, iteT (iteT (q2 (fun fs e F => F.ne ?_) H1 x1))⟩
      exact (List.map_eq_nil_iff.mp e.symm)
    refine eqD_of (dp_ints hxs1) (dp_ints (SqL.of e0)) (sh_ints (n := 63)) (sh_ints (n := 63)) ⟨_, rfl, ?_⟩
    rw [eqv_ints, decide_eq_false hz0]
    refine iteF ?_
    have lz : (zs.map V.int).length = zs.length := List.length_map ..
    refine ⟨_, rfl, a, rfl, ⟨_, hxs1⟩, fun D hD => lcPs (T := tK K) w_list hD (by omega) (fun _ x => x.seq hxs1) (fun i => .bl (decide (0 ≤ zs.getD i 0 ∧ zs.getD i 0 ≤ 94))) ?_ fun H2 x2 e2 => ?_⟩
    · intro i x H' hi hy x1 Q q
      rw [List.getElem?_map] at hy
      obtain ⟨z, hz, rfl⟩ := Option.map_eq_some_iff.mp hy
      have e : zs.getD i 0 = z := by rw [List.getD_eq_getElem?_getD, hz]; rfl
      rw [e] at q
      refine ⟨_, rfl, _, _, _, _, true, rfl, .ty "int", .base (.int z), by rfl, _, rfl, iteT ⟨_, rfl, _, _, rfl, rfl, _, rfl, ite2 (fun h1 => ?_) (fun h1 => ?_)⟩⟩
      · have h1 := of_decide_eq_true h1
        refine ⟨_, _, rfl, rfl, ?_⟩
        have e2 : decide (0 ≤ z ∧ z ≤ 94) = decide (z ≤ 94) := decide_eq_decide.mpr ⟨fun h => h.2, fun h => ⟨h1, h⟩⟩
        rw [e2] at q
        exact q _ .refl
      · have h1 : ¬ 0 ≤ z := fun h => h1 (decide_eq_true h)
        rw [decide_eq_false (fun h => h1 h.1)] at q
        have e3 : decide ((0 : Int) ≤ z) = false := decide_eq_false h1
        exact q _ .refl
    have eb : ((List.range (zs.map V.int).length).map fun i => V.bl (decide (0 ≤ zs.getD i 0 ∧ zs.getD i 0 ≤ 94))) = (zs.map fun z => decide (0 ≤ z ∧ z ≤ 94)).map V.bl := by
      rw [lz]
      have := kept_gen (0 : Int) (fun _ => true) (fun c => V.bl (decide (0 ≤ c ∧ c ≤ 94))) zs
      rw [kept_all] at this
      rw [this, List.filter_eq_self.mpr (fun _ _ => rfl), List.map_map]
      rfl
    rw [eb] at e2
    have x2 := x1.trans x2
    refine ⟨D, _, rfl, SqL.of e2, _, rfl, ite2 (fun h4 => ?_) (fun h4 => ?_)⟩
    · refine q2 (fun fs e F => ?_) H2 x2
      have : ((zs.map fun z => decide (0 ≤ z ∧ z ≤ 94)).all id) = true := by
        rw [List.all_map, List.all_eq_true]
        intro z hz
        rw [e] at hz
        obtain ⟨y, hy, rfl⟩ := List.mem_map.mp hz
        have := F.le y hy
        exact decide_eq_true (by omega)
      rw [this] at h4
      cases h4
    have h5 : ∀ z ∈ zs, 0 ≤ z ∧ z ≤ 94 := by
      cases z : (zs.map fun z => decide (0 ≤ z ∧ z ≤ 94)).all id with
      | true =>
        rw [List.all_map, List.all_eq_true] at z
        exact fun y hy => of_decide_eq_true (z y hy)
      | false =>
        rw [z] at h4
        exact absurd rfl h4
    clear h4 eb e2
    obtain ⟨fs, rfl⟩ := toZ_of fun z hz => (h5 z hz).1
    rw [toZ_V] at hxs
    have hf : ∀ z ∈ fs, z ≤ 94 := fun z hz => by
      have := (h5 _ (List.mem_map.mpr ⟨z, hz, rfl⟩)).2
      omega
    have hxs2 := x2.seq hxs
    have lf : (toZ fs).length = fs.length := List.length_map ..
    have f0 : fs ≠ [] := fun e => hz0 (by rw [e]; rfl)
    refine ⟨_, rfl, a, toZ fs, rfl, (by rw [toZ_V]; exact hxs2), by rw [lf]; exact List.length_pos_iff.mpr f0, fun mz hm hle => ?_⟩
    obtain ⟨mn, hmn, rfl⟩ := List.mem_map.mp hm
    have hle : ∀ z ∈ fs, z ≤ mn := fun z hz => by
      have := hle _ (List.mem_map.mpr ⟨z, hz, rfl⟩)
      omega
    have hmn := hf mn hmn
    refine ⟨_, rfl, a, rfl, ⟨_, hxs2⟩, fun D hD => lcPs (T := tK K) w_list hD (by rw [List.length_map]; omega) (fun _ x => x.seq hxs2) (fun i => .int ((2 ^ (mn - fs.getD i 0) : Nat) : Int)) ?_ fun H3 x3 e3 => ?_⟩
    · intro i x H' hi hy x1 Q q
      rw [List.getElem?_map] at hy
      obtain ⟨z, hz, rfl⟩ := Option.map_eq_some_iff.mp hy
      have e : fs.getD i 0 = z := by rw [List.getD_eq_getElem?_getD, hz]; rfl
      have := hle z (List.mem_of_getElem? hz)
      rw [e, ← shl_val mn z this] at q
      exact ⟨_, rfl, _, rfl, _, _, rfl, rfl, _, _, rfl, rfl, ⟨by omega, by omega, by decide⟩, q _ .refl⟩
    have eb : ((List.range (fs.map nV).length).map fun i => V.int ((2 ^ (mn - fs.getD i 0) : Nat) : Int)) = (fs.map fun z => ((2 ^ (mn - z) : Nat) : Int)).map V.int := by
      rw [List.length_map]
      have := kept_gen (0 : Nat) (fun _ => true) (fun c => V.int ((2 ^ (mn - c) : Nat) : Int)) fs
      rw [kept_all] at this
      rw [this, List.filter_eq_self.mpr (fun _ _ => rfl), List.map_map]
      rfl
    rw [eb] at e3
    have x3 := x2.trans x3
    have em := shl_val mn 0 (Nat.zero_le _)
    rw [show ((mn : Int) - ((0 : Nat) : Int)).toNat = ((mn : Int)).toNat by omega, Nat.sub_zero] at em
    have key := fill_most hmn hle
    have ee : (V.int ((fs.map fun z => ((2 ^ (mn - z) : Nat) : Int)).sum) = V.int ((1 : Int) * 2 ^ ((mn : Int)).toNat)) ↔ (fs.map fun z => 2 ^ (mn - z)).sum = 2 ^ mn := by
      rw [em, sum_cast]
      constructor
      · intro h
        injection h with h
        exact Int.ofNat_inj.mp h
      · intro h
        rw [h]
    refine ⟨D, _, rfl, SqL.of e3, _, rfl, _, _, rfl, rfl, ⟨by omega, by omega, by decide⟩, rfl, _, rfl, ite2 (fun h => ?_) (fun h => ?_)⟩
    · refine q2 (fun gs e F => ?_) H3 x3
      rw [← toZ_inj e] at F
      rw [decide_eq_true (ee.mpr (key.mp F.full))] at h
      cases h
    · refine q1 fs rfl ⟨f0, hf, key.mpr (ee.mp ?_)⟩ H3 x3
      by_cases z : V.int ((fs.map fun z => ((2 ^ (mn - z) : Nat) : Int)).sum) = V.int ((1 : Int) * 2 ^ ((mn : Int)).toNat)
      · exact z
      · exact absurd (show (!decide (V.int ((fs.map fun z => ((2 ^ (mn - z) : Nat) : Int)).sum) = V.int ((1 : Int) * 2 ^ ((mn : Int)).toNat))) = true by rw [decide_eq_false z]; rfl) h
def spWords (K : PySem.W.Frag) : Sp := fun vs H Q E => ∃ (a : Addr) (zs : List Int), vs = [.ref a] ∧ SqL K H a (zs.map V.int) ∧ zs.length ≤ 1000 ∧
  (∀ fs, zs = toZ fs → Fill fs → ∀ H' p, Xt (tK K) H H' → Nw H p → H' p = some (.lst ((wrds fs).map fun x => V.str (sb x))) → Q (.ref p) H') ∧ ((∀ fs, zs = toZ fs → ¬ Fill fs) → ∀ H', Xt (tK K) H H' → E (.ref (He.ga K "BadCode")) none H')
theorem ok_words (T : Tx K mg) : OkN P w K mg base ("words", none) 2 ["some"] (spWords K) := by
  refine T.F_words.ok sc_words (fun vs H Q E h => ?_) (fun cdv A outer s H vs Q E hr h => ?_)
  · obtain ⟨a, zs, rfl, _⟩ := h
    rfl
  · obtain ⟨a, zs, rfl, hxs, hl, q1, q2⟩ := h
    refine ⟨_, (pss_cons (ps_expr (pe_callS (ok_need_lengths T) (hr.mono (by decide)) (by rfl) T.g_need_lengths T.F_need_lengths.kp T.B_need_lengths psE (pa_cons (pv 0) pa_nil)))
    (pss_cons (ps_set (i := 1) sc_words.nd rfl (.inl rfl) (pe_op op_rep (pe_lst (pa_cons pe_str pa_nil)) (pe_callB (call_len_seqK (K := K) rfl) (by rfl) T.z_len b_len (pa_cons (pv 0) pa_nil))))
    (pss_cons (ps_set (i := 2) sc_words.nd rfl (.inl rfl) pe_int)
    (pss_cons (ps_set (i := 3) sc_words.nd rfl (.inl rfl) pe_int)
    (pss_cons (ps_for (passes_of rfl) rfl (pi_listK (K := K) rfl (pe_callB (cr_sortDat (K := K) rfl hr.units) (by rfl) T.z_sorted b_sorted (pa_cons (pe_lc (own := [("at", 5), ("one", 4)]) rfl sc_words.nd (pi_enumK (K := K) rfl (by rfl) T.z_enumerate (pa_cons (pv 0) pa_nil) (by rfl)) (blkOk_by (N := N_words) (sc := defScope s_words) (by decide +kernel)) (fun _ _ _ _ _ => (pg_tupK (K := K) (n := 2) rfl rfl (pgs_cons (pg_name (i := 5) sc_words.nd rfl (.inl rfl)) (pgs_cons (pg_name (i := 4) sc_words.nd rfl (.inl rfl)) pgs_nil)) (by rfl) (by rfl))) (fun _ _ _ _ _ => pts_nil) (fun _ _ _ _ _ => (pe_tup (pa_cons (pv 4) (pa_cons (pv 5) pa_nil))))) pa_nil))) (pg_tupK (K := K) (n := 2) rfl rfl (pgs_cons (pg_name (i := 4) sc_words.nd rfl (.inl rfl)) (pgs_cons (pg_name (i := 5) sc_words.nd rfl (.inl rfl)) pgs_nil)) (by rfl) (by rfl))
    (pss_cons (ps_set (i := 2) sc_words.nd rfl (.inl rfl) (pe_op op_shlW (pv 2) (pe_op op_sub (pv 4) (pv 3))))
    (pss_cons (ps_set (i := 3) sc_words.nd rfl (.inl rfl) (pv 4))
    (pss_cons (ps_asg (pe_callS (ok_in_bits T) (hr.mono (by decide)) (by rfl) T.g_in_bits T.F_in_bits.kp T.B_in_bits psE (pa_cons (pv 2) (pa_cons (pv 3) pa_nil))) (pg_sub (pv 1) (pv 5) set_list))
    (pss_one (ps_set (i := 2) sc_words.nd rfl (.inl rfl) (pe_op op_add (pv 2) pe_int)))))))
    (pss_one (ps_ret (pv 1)))))))), ?_⟩
    refine ⟨_, rfl, a, zs, rfl, hxs, hl, fun fs efs F H1 x1 => ?_, fun bad H1 x1 => q2 bad H1 x1.up⟩
    have q3 := q1 fs efs F
    subst efs
    rw [toZ_V] at hxs
    have lf : (toZ fs).length = fs.length := List.length_map ..
    rw [lf] at hl
    have x1 := Xg.up x1
    refine ⟨by exact (by decide : 1 ≤ sizeLine), fun f0 n0 => ?_⟩
    generalize hH : upd H1 f0 _ = H2
    have y2 := newE (lo := True) (T := tK K) hH n0
    have e0 := atE hH
    have x2 := x1.trans y2
    clear hH n0 y2
    refine ⟨_, rfl, a, _, rfl, .inl (x2.seq hxs), f0, _, _, rfl, rfl, e0, by omega, by rw [List.length_map]; omega, by show 1 * _ ≤ _; rw [List.length_map]; exact nfits (by omega), fun f nf => ?_⟩
    generalize hH : upd H2 f _ = H3
    have y3 := newE (lo := True) (T := tK K) hH nf
    have ef : H3 f = some (.lst ((wrun fs 0).2.2.map fun x => V.str (sb x))) := by
      rw [atE hH, List.length_map]
      show some (HO.lst (List.replicate fs.length [V.str (Str.ofString "")]).flatten) = some (HO.lst ((List.replicate fs.length ([] : Wd)).map fun x => V.str (sb x)))
      rw [rep_flatV, List.map_replicate, sb_nil]
    have nwf : Nw H f := x2.nw (.of nf)
    have x3 := x2.trans y3
    clear hH nf e0 y3
    have hxs3 := x3.seq hxs
    -- pairs, in order
    refine ⟨_, rfl, a, _, rfl, hxs3, fun D hD => lcT (lo := True) (T := tK K) (j := 5) (k := 4) (fun i vs H' => H' f = some (.lst ((wrun fs 0).2.2.map fun x => V.str (sb x))) ∧ ∃ qs : List (V × (Nat × Nat)), vs = qs.map Prod.fst ∧ qs.map Prod.snd = fs.zipIdx.take i ∧ ∀ q ∈ qs, PairAt H' [f, D] q) w_enum (by decide) hD (by rw [List.length_map]; omega) (fun _ x => x.seq hxs3)
      (fun T x y σ H Q e q => ⟨T, _, rfl, .inl (.inl e), rfl, _, _, rfl, _, _, rfl, rfl, q⟩) ⟨(Xt.new (T := tK K) hD).lst ef, [], rfl, rfl, fun q h => by cases h⟩ (fun i vs H' H'' p x => ?_) ?_ fun H4 vs x4 p4 l4 e4 => ?_⟩
    · obtain ⟨p0, qs, p1, p2, p3⟩ := p
      exact ⟨x.lst p0, qs, p1, p2, fun q hq => (p3 q hq).xg x⟩
    · intro i x y H' vs hi hx hy x4 p e4 Q q
      obtain ⟨p0, qs, rfl, p2, p3⟩ := p
      cases hx
      rw [List.getElem?_map] at hy
      obtain ⟨c, hc, rfl⟩ := Option.map_eq_some_iff.mp hy
      have hDf : D ≠ f := fun z => by rw [z, ef] at hD; cases hD
      refine ⟨_, rfl, _, rfl, by exact (by decide : 2 ≤ sizeLine), fun pt nt => ?_⟩
      generalize hH : upd H' pt _ = H6
      have y6 := newE (lo := True) (T := tK K) hH nt
      have et := atE hH
      clear hH
      have tf : pt ≠ f := fun z => by rw [z, p0] at nt; cases nt
      have tD : pt ≠ D := fun z => by rw [z, e4] at nt; cases nt
      refine q (.ref pt) H6 y6 ⟨by rw [upd_ne (Ne.symm hDf)]; exact y6.lst p0, qs ++ [(.ref pt, (c, i))], by rw [List.map_append]; rfl, ?_, fun q hq => ?_⟩
      · rw [List.map_append, p2, List.take_add_one]
        congr 1
        show [(c, i)] = ((fs.zipIdx[i]?).toList)
        rw [List.getElem?_zipIdx, hc]
        simp
      · rcases List.mem_append.mp hq with hq | hq
        · exact ((p3 q hq).xg y6).upd (by simp)
        · rw [List.mem_singleton.mp hq]
          exact PairAt.upd ⟨pt, rfl, by simp [tf, tD], et⟩ (by simp)
    obtain ⟨ef4, qs, rfl, p2, p3⟩ := p4
    rw [List.length_map] at l4 p2
    rw [List.take_of_length_le (by rw [List.length_zipIdx]; exact Nat.le_refl _)] at p2
    refine ⟨D, qs.map encR, rfl, SqL.of (by rw [e4, List.map_map]; rfl), fun b hb => ?_, encP_alike qs, encP_sortable qs, fun b hb => ?_, fun p5 n5 => ?_⟩
    · obtain ⟨q, hq, rfl⟩ := List.mem_map.mp hb
      exact (p3 q hq).dp
    · obtain ⟨q, hq, rfl⟩ := List.mem_map.mp hb
      exact encP_depth q.2
    rw [srtR_enc]
    have hsr := srtR_snd qs
    rw [p2] at hsr
    have hmem : ∀ q ∈ srtR qs, PairAt H4 [f] q := fun q hq => (p3 q (srtR_mem.mp hq)).less (by simp)
    have lsr : (srtR qs).length = fs.length := by
      have h1 : (srtR qs).length = qs.length := List.length_mergeSort ..
      have h2 := congrArg List.length p2
      rw [List.length_map, List.length_zipIdx] at h2
      omega
    generalize srtR qs = rs at hsr hmem lsr ⊢
    generalize hH : upd H4 p5 _ = H5
    have y5 := newE (lo := True) (T := tK K) hH n5
    have e5 : H5 p5 = some (.lst (rs.map Prod.fst)) := atE hH
    have p5f : p5 ≠ f := fun z => by rw [z, ef4] at n5; cases n5
    have ef := y5.lst ef4
    have hmem : ∀ q ∈ rs, PairAt H5 [f] q := fun q hq => (hmem q hq).xg y5
    have x5 := (x3.trans x4).trans y5
    clear hH n5 y5 p3 p2 e4 ef4 x4 hD
    refine ⟨p5, rfl, ⟨_, SqL.of e5⟩, for_it w_list (fun k σ H' => Xt (tK K) H H' ∧ H' f = some (.lst ((wrun fs k).2.2.map fun x => V.str (sb x))) ∧ H' p5 = some (.lst (rs.map Prod.fst)) ∧ (∀ q ∈ rs, PairAt H' [f] q) ∧ ∃ t4 t5, σ = [some (.ref a), some (.ref f), some (nV (wrun fs k).1), some (nV (wrun fs k).2.1), t4, t5])
      ⟨x5, ef, e5, hmem, _, _, rfl⟩ (fun _ _ _ _ h => SqL.of h.2.2.1) ?_ ?_⟩
    · intro k x σ Ha Hb hk hp hy
      obtain ⟨xa, ef, e5, hmem, t4, t5, rfl⟩ := hp
      obtain ⟨rfl, hx⟩ := hy
      rw [List.length_map, lsr] at hk
      rw [List.getElem?_map] at hx
      obtain ⟨q, hq, rfl⟩ := Option.map_eq_some_iff.mp hx
      obtain ⟨t, eq, ht, et⟩ := hmem q (List.mem_of_getElem? hq)
      have hpk : (srtP fs.zipIdx)[k]? = some q.2 := by rw [← hsr, List.getElem?_map, hq]; rfl
      obtain ⟨hn1, hn2⟩ := wrun_num fs F.le k (by omega)
      have hw := wide_at (fs := fs) (k := k) (by omega) k q.2 (Nat.le_refl _) hpk
      have hat := zip_mem (List.mem_of_getElem? hpk)
      have h1 := F.le _ (List.mem_of_getElem? hat)
      have h2 : q.2.2 < fs.length := (List.getElem?_eq_some_iff.mp hat).1
      have lw := wrun_len fs k (by omega)
      have ws : wrun fs (k + 1) = wst (wrun fs k) q.2 := wrun_succ hpk
      rw [ws]
      generalize wrun fs k = st at ef hn1 hn2 hw lw ⊢
      rw [eq]
      have esh : V.int (((st.1 : Nat) : Int) * 2 ^ (((q.2.1 : Nat) : Int) - ((st.2.1 : Nat) : Int)).toNat) = nV (st.1 * 2 ^ (q.2.1 - st.2.1)) := by
        refine congrArg V.int ?_
        rw [show (((q.2.1 : Nat) : Int) - ((st.2.1 : Nat) : Int)).toNat = q.2.1 - st.2.1 by omega, Int.natCast_mul]
        simp
      refine ⟨t, _, rfl, .inl (.inl et), rfl, _, _, rfl, _, _, rfl, rfl, ?_⟩
      refine ⟨_, rfl, _, rfl, _, rfl, _, _, rfl, rfl, _, _, rfl, rfl, ⟨by omega, ?_⟩, gv esh ?_⟩
      · have hb : Builtin.Int.intBits ((st.1 : Nat) : Int) ≤ 200 := by
          refine PyProof.Rows.intBits_le ?_
          rw [Int.natAbs_natCast]
          refine Nat.lt_of_le_of_lt hn1 (Nat.lt_of_le_of_lt (Nat.mul_le_mul (show k ≤ 1000 by omega) (Nat.pow_le_pow_right (by decide) hn2)) (by decide))
        omega
      refine ⟨_, rfl, _, rfl, _, rfl, st.1 * 2 ^ (q.2.1 - st.2.1), q.2.1, rfl, by omega, _, rfl, _, rfl, f, _, _, q.2.2, rfl, rfl, ef, Evl.ixN_nat (by rw [List.length_map, lw]; exact h2), ?_⟩
      refine ⟨_, rfl, _, _, rfl, rfl, xa.mut nwf ef, ?_, by rw [upd_ne p5f]; exact e5, fun q hq => (hmem q hq).upd (by simp), _, _, rfl⟩
      rw [upd_same]
      unfold wst
      rw [List.map_set]
    · intro σ Ha hp
      obtain ⟨xa, ef, e5, hmem, t4, t5, rfl⟩ := hp
      rw [List.length_map, lsr] at ef
      exact ⟨_, rfl, q3 Ha f xa nwf ef⟩
end
end Tw

set_option maxHeartbeats 4000000
namespace Tw
open PySem PySem.Spec PyProof.Rows L2 LamX
section
variable {P : Program} {w : World} {K : PySem.W.Frag} {mg : Str → Option Value} {base : Heap}
theorem toZ_nV {fs : List Nat} {a : Addr} {H : Hp} (e : H a = some (.lst (fs.map nV))) : SqL K H a ((toZ fs).map V.int) := SqL.of (by rw [toZ_V]; exact e)
def spCoded (K : PySem.W.Frag) : Sp := fun vs H Q E => ∃ l : List Nat, vs = [.str (S l)] ∧ l.length ≤ 10000 ∧
  (goodT l → l ≠ [] → ∀ H' t p, Xt (tK K) H H' → H' t = some (.tup [.str (S (ltr l)), .ref p, nV l.length, .str (sb (encB l))]) → H' p = some (.lst ((lens (cnts l)).map nV)) → Q (.ref t) H') ∧
  (¬ (goodT l ∧ l ≠ []) → ∀ H', Xt (tK K) H H' → E (.ref (He.ga K "BadText")) none H')
theorem ok_coded (T : Tx K mg) : OkN P w K mg base ("coded", none) 5 ["text"] (spCoded K) := by
  refine T.F_coded.ok sc_coded (fun vs H Q E h => ?_) (fun cdv A outer s H vs Q E hr h => ?_)
  · obtain ⟨l, rfl, _⟩ := h
    rfl
  · obtain ⟨l, rfl, hl, q1, q2⟩ := h
    refine ⟨_, (pss_cons (ps_expr (pe_callS (ok_need_text T) (hr.mono (by decide)) (by rfl) T.g_need_text T.F_need_text.kp T.B_need_text psE (pa_cons (pv 0) pa_nil)))
    (pss_cons (ps_if (pt_cmpR op_eq (pv 0) pe_str (nomark _))
    (pss_one (ps_rz T.x_BadText rfl (by decide))) pss_nil)
    (pss_cons (ps_set (i := 1) sc_coded.nd rfl (.inr rfl) (pe_callS (ok_letters_of T) (hr.mono (by decide)) (by rfl) T.g_letters_of T.F_letters_of.kp T.B_letters_of psE (pa_cons (pv 0) pa_nil)))
    (pss_cons (ps_set (i := 2) sc_coded.nd rfl (.inl rfl) (pe_callS (ok_lengths T) (hr.mono (by decide)) (by rfl) T.g_lengths T.F_lengths.kp T.B_lengths psE (pa_cons (pe_lc (own := [("sign", 3)]) rfl sc_coded.nd (pi_str (pv 1)) (blkOk_by (N := N_coded) (sc := defScope s_coded) (by decide +kernel)) (fun _ _ _ _ _ => (pg_name (i := 3) sc_coded.nd rfl (.inl rfl))) (fun _ _ _ _ _ => pts_nil) (fun _ _ _ _ _ => (pe_m1 F.slot_str_count F.type_str_count mt_count (pv 0) (pv 3)))) pa_nil)))
    (pss_cons (ps_set (i := 4) sc_coded.nd rfl (.inr rfl) (pe_callS (ok_words T) (hr.mono (by decide)) (by rfl) T.g_words T.F_words.kp T.B_words psE (pa_cons (pv 2) pa_nil)))
    (pss_one (ps_ret (pe_tup (pa_cons (pv 1) (pa_cons (pv 2) (pa_cons (pe_callB call_len_str (by rfl) T.z_len b_len (pa_cons (pv 0) pa_nil)) (pa_cons (pe_joinK (K := K) rfl pe_str (pe_lc (own := [("sign", 3)]) rfl sc_coded.nd (pi_str (pv 0)) (blkOk_by (N := N_coded) (sc := defScope s_coded) (by decide +kernel)) (fun _ _ _ _ _ => (pg_name (i := 3) sc_coded.nd rfl (.inl rfl))) (fun _ _ _ _ _ => pts_nil) (fun _ _ _ _ _ => (pe_ix (ix_listK (K := K) rfl) (pv 4) (pe_m1 F.slot_str_index F.type_str_index mt_sindex (pv 1) (pv 3)) (fun _ _ => rfl)))) (by rfl) (by rfl) (by rfl)) pa_nil)))))))))))), ?_⟩
    refine ⟨_, rfl, l, rfl, hl, fun g H1 x1 => ?_, fun g H1 x1 => q2 (fun z => g z.1) H1 x1.up⟩
    have x1 := Xg.up x1
    refine ⟨_, rfl, rfl, _, rfl, ite2 (fun h => ?_) (fun h => ?_)⟩
    · refine q2 (fun z => z.2 ?_) H1 x1
      have h := of_decide_eq_true h
      injection h with h
      have h : S l = S [] := h.trans (by decide +kernel)
      exact S_inj h
    have l0 : l ≠ [] := fun e => h (decide_eq_true (by rw [e]; exact congrArg V.str (by decide +kernel)))
    have q1 := q1 g l0
    have hl5 := g.1
    have gC := cnts_good l0 g.2
    have L := lens_ok gC.1 gC.2.1
    have F := L.fill gC.1 gC.2.1
    have hln : (lens (cnts l)).length = (ltr l).length := by rw [L.len]; exact List.length_map ..
    have ll := ltr_len l
    have lz : (S l).length = l.length := S_len l
    refine ⟨_, rfl, l, rfl, hl5, g.lt, fun H2 x2 => ?_⟩
    have x2 := x1.trans x2.up
    refine ⟨_, rfl, _, rfl, fun D hD => lcP (T := tK K) w_str hD (by omega) (fun _ _ => trivial) (fun i => nV (l.count ((ltr l).getD i 0))) ?_ fun H3 x3 e3 => ?_⟩
    · intro i x H' hi hy x1 Q q
      obtain ⟨c, hc, rfl⟩ := hy
      have e : (ltr l).getD i 0 = c := by rw [List.getD_eq_getElem?_getD, hc]; rfl
      have ev : V.int (Txt.count (S l) (S [c])) = nV (l.count c) := congrArg V.int (count_S l c)
      rw [e, ← ev] at q
      exact ⟨_, rfl, ⟨_, rfl⟩, _, rfl, _, _, rfl, rfl, q _ .refl⟩
    have eb : ((List.range (ltr l).length).map fun i => nV (l.count ((ltr l).getD i 0))) = (cnts l).map nV := by
      have := kept_gen (0 : Nat) (fun _ => true) (fun c => nV (l.count c)) (ltr l)
      rw [kept_all] at this
      rw [this, List.filter_eq_self.mpr (fun _ _ => rfl)]
      unfold cnts
      rw [List.map_map]
      rfl
    rw [eb] at e3
    have x3 := x2.trans x3
    have lcn : (cnts l).length = (ltr l).length := List.length_map ..
    refine ⟨D, _, rfl, SqL.of e3, by rw [List.length_map, lcn]; omega, cvOk_nV _, fun cs e gc H4 p x4 np ep => ?_, fun bad => absurd gC (bad _ rfl)⟩
    obtain rfl := nV_inj e
    have x4 := x3.trans x4
    refine ⟨_, rfl, p, toZ (lens (cnts l)), rfl, toZ_nV ep, by rw [List.length_map, hln]; omega, fun fs e F' H5 ws x5 nws ews => ?_, fun bad => absurd F (bad _ rfl)⟩
    have e := toZ_inj e
    rw [← e] at ews
    clear e F'
    have ep := x5.lst ep
    have x5 := x4.trans x5
    have ews : H5 ws = some (.lst ((wtx l).map fun x => V.str (sb x))) := ews
    clear x4 x3 x2 x1 e3 np nws
    refine ⟨_, rfl, _, rfl, _, rfl, _, rfl, by rw [lz]; exact nfits (by omega), ⟨_, rfl⟩, _, rfl, _, rfl, fun D2 hD2 => lcP (T := tK K) w_str hD2 (by omega) (fun _ _ => trivial) (fun i => .str (sb ((wtx l).getD (ixc l (l.getD i 0)) []))) ?_ fun H6 x6 e6 => ?_⟩
    · intro i x H' hi hy x1 Q q
      obtain ⟨c, hc, rfl⟩ := hy
      have e : l.getD i 0 = c := by rw [List.getD_eq_getElem?_getD, hc]; rfl
      rw [e] at q
      have hcm := List.mem_of_getElem? hc
      obtain ⟨x, hx, _, _⟩ := wtx_at l0 g.2 (ixc_lt hcm (g.lt c hcm))
      have e2 : (wtx l).getD (ixc l c) [] = x := by rw [List.getD_eq_getElem?_getD, hx]; rfl
      rw [e2] at q
      exact ⟨_, rfl, _, rfl, ⟨_, rfl⟩, _, rfl, S (ltr l), S [c], ixc l c, [], rfl, rfl, ix_first hcm (g.lt c hcm), ws, _, _, .str (sb x), rfl, rfl, SqL.of (x1.lst ews), atI_nat (by rw [List.getElem?_map, hx]; rfl), q _ .refl⟩
    have eb2 : ((List.range l.length).map fun i => V.str (sb ((wtx l).getD (ixc l (l.getD i 0)) []))) = ((l.map fun c => (wtx l).getD (ixc l c) []).map sb).map V.str := by
      have := kept_gen (0 : Nat) (fun _ => true) (fun c => V.str (sb ((wtx l).getD (ixc l c) []))) l
      rw [kept_all] at this
      rw [this, List.filter_eq_self.mpr (fun _ _ => rfl), List.map_map, List.map_map]
      rfl
    rw [eb2] at e6
    have el := enc_le l0 g.2
    refine ⟨S [], D2, (l.map fun c => (wtx l).getD (ixc l c) []).map sb, rfl, rfl, .inl (SqL.of e6), ?_, ?_⟩
    · rw [sum_len, S_len, ← List.length_flatten, List.length_map, List.length_map]
      show (encB l).length + l.length * 0 ≤ _
      exact nfits (by omega)
    have ej : Txt.join (S []) ((l.map fun c => (wtx l).getD (ixc l c) []).map sb) = sb (encB l) := by
      rw [show S [] = sb [] from rfl, join_sb]
      rfl
    rw [ej]
    refine ⟨by exact (by decide : 4 ≤ sizeLine), fun t nt => ?_⟩
    generalize hH : upd H6 t _ = H7
    have y7 := newE (lo := True) (T := tK K) hH nt
    have et : H7 t = some (.tup [.str (S (ltr l)), .ref p, nV l.length, .str (sb (encB l))]) := by
      rw [atE hH, lz]
    exact q1 H7 t p ((x5.trans x6).trans y7) et ((x6.trans y7).lst ep)
def spDecoded (K : PySem.W.Frag) : Sp := fun vs H Q E => ∃ (ls : List Nat) (a : Addr) (zs : List Int) (many : Int) (z : Str), vs = [.str (S ls), .ref a, .int many, .str z] ∧ SqL K H a (zs.map V.int) ∧ ls.length ≤ 1000 ∧ (∀ c ∈ ls, c < 128) ∧ zs.length ≤ 1000 ∧ z.length ≤ 10000 ∧
  (¬ GoodL ls → ∀ H', Xt (tK K) H H' → E (.ref (He.ga K "BadText")) none H') ∧
  (GoodL ls → ((zs.length ≠ ls.length ∨ ∀ fs, zs = toZ fs → ¬ Fill fs) → ∀ H', Xt (tK K) H H' → E (.ref (He.ga K "BadCode")) none H') ∧
    ∀ fs, zs = toZ fs → fs.length = ls.length → Fill fs →
      (((∀ bs, z ≠ sb bs) ∨ ¬ (1 ≤ many ∧ many ≤ 512)) → ∀ H', Xt (tK K) H H' → E (.ref (He.ga K "BadBits")) none H') ∧
      ∀ (bs : Wd) (n : Nat), z = sb bs → many = n → 1 ≤ n → n ≤ 512 →
        (∀ is, rdK (wrds fs) n bs = some (is, []) → ∀ H', Xt (tK K) H H' → Q (.str (S (is.map fun i => ls.getD i 0))) H') ∧
        ((∀ is, rdK (wrds fs) n bs ≠ some (is, [])) → ∀ H', Xt (tK K) H H' → E (.ref (He.ga K "BadBits")) none H'))
theorem rd_gone {fs : List Nat} {r : Wd} (F : Fill fs) {e : Nat} (he : e ≤ r.length) (hb : ∀ e', e' < e → r.take e' ∉ wrds fs) (hx : e = r.length ∨ r.take e ∈ wrds fs) (hn : r.take e ∉ wrds fs) : rd (wrds fs) r = none := by
  have ee : e = r.length := hx.resolve_right hn
  cases h : rd (wrds fs) r with
  | none => rfl
  | some i =>
    obtain ⟨x, hx, hp⟩ := rd_some h
    have e1 := List.prefix_iff_eq_take.mp hp
    have l1 : x.length ≤ r.length := hp.length_le
    rcases Nat.lt_or_ge x.length e with q | q
    · exact absurd (by rw [← e1]; exact List.mem_of_getElem? hx) (hb x.length q)
    · rw [show x.length = e by omega] at e1
      exact absurd (by rw [← e1]; exact List.mem_of_getElem? hx) hn
theorem ok_decoded (T : Tx K mg) : OkN P w K mg base ("decoded", none) 5 ["letters", "some", "many", "bits"] (spDecoded K) := by
  refine T.F_decoded.ok sc_decoded (fun vs H Q E h => ?_) (fun cdv A outer s H vs Q E hr h => ?_)
  · obtain ⟨ls, a, zs, many, z, rfl, _⟩ := h
    rfl
  · obtain ⟨ls, a, zs, many, z, rfl, hzs, hls, h128, hlz, hz, q1, q2⟩ := h
    refine ⟨_, (pss_cons (ps_if (PW.pt (pw_or (pt_not (pt_val (pe_callB (cr_allK (K := K) rfl rfl) (by rfl) T.z_all b_all (pa_cons (pe_lc (own := [("sign", 4)]) rfl sc_decoded.nd (pi_str (pv 0)) (blkOk_by (N := N_decoded) (sc := defScope s_decoded) (by decide +kernel)) (fun _ _ _ _ _ => (pg_name (i := 4) sc_decoded.nd rfl (.inl rfl))) (fun _ _ _ _ _ => pts_nil) (fun _ _ _ _ _ => (pe_callS (ok_is_sign T) (hr.mono (by decide)) (by rfl) T.g_is_sign T.F_is_sign.kp T.B_is_sign ps0 (pa_cons (pv 4) pa_nil)))) pa_nil)))) (pw_or1 (pt_cmpR (op_neDK (K := K) rfl hr.units) (pe_callTy (call_list_txt rfl) (by rfl) T.z_list b_list (pa_cons (pv 0) pa_nil)) (pe_sortSet rfl (by rfl) T.z_sorted (by rfl) T.z_set (pv 0)) (nomark _)))))
    (pss_one (ps_rz T.x_BadText rfl (by decide))) pss_nil)
    (pss_cons (ps_if (pt_cmpR op_ne (pe_callB (call_len_seqK (K := K) rfl) (by rfl) T.z_len b_len (pa_cons (pv 1) pa_nil)) (pe_callB call_len_str (by rfl) T.z_len b_len (pa_cons (pv 0) pa_nil)) (nomark _))
    (pss_one (ps_rz T.x_BadCode rfl (by decide))) pss_nil)
    (pss_cons (ps_set (i := 5) sc_decoded.nd rfl (.inl rfl) (pe_callS (ok_words T) (hr.mono (by decide)) (by rfl) T.g_words T.F_words.kp T.B_words psE (pa_cons (pv 1) pa_nil)))
    (pss_cons (ps_expr (pe_callS (ok_need_bits T) (hr.mono (by decide)) (by rfl) T.g_need_bits T.F_need_bits.kp T.B_need_bits psE (pa_cons (pv 3) pa_nil)))
    (pss_cons (ps_if (pt_not (pt_chain op_le op_le pe_int (pv 2) (pe_glob (v := .int _) (by rfl) T.c_MOST.choose_spec ⟨_, rfl⟩)))
    (pss_one (ps_rz T.x_BadBits rfl (by decide))) pss_nil)
    (pss_cons (ps_set (i := 6) sc_decoded.nd rfl (.inl rfl) pe_str)
    (pss_cons (ps_set (i := 7) sc_decoded.nd rfl (.inl rfl) pe_int)
    (pss_cons (ps_for (passes_of rfl) rfl (pi_range1 (by rfl) T.z_range (pa_cons (pv 2) pa_nil)) (pg_name (i := 8) sc_decoded.nd rfl (.inl rfl))
    (pss_cons (ps_set (i := 9) sc_decoded.nd rfl (.inl rfl) (pv 7))
    (pss_cons (ps_while (passes_of rfl) (PW.pt (pw_and (pt_cmpR op_lt (pv 9) (pe_callB call_len_str (by rfl) T.z_len b_len (pa_cons (pv 3) pa_nil)) (nomark _)) (pw_and1 (pt_cmpR (op_notIn_seqK (K := K) rfl) (pe_slice sl_str (pv 3) (po_some (pv 7)) (po_some (pv 9))) (pv 5) (by rfl)))))
    (pss_one (ps_set (i := 9) sc_decoded.nd rfl (.inl rfl) (pe_op op_add (pv 9) pe_int))))
    (pss_cons (ps_if (pt_cmpR (op_notIn_seqK (K := K) rfl) (pe_slice sl_str (pv 3) (po_some (pv 7)) (po_some (pv 9))) (pv 5) (by rfl))
    (pss_one (ps_rz T.x_BadBits rfl (by decide))) pss_nil)
    (pss_cons (ps_set (i := 6) sc_decoded.nd rfl (.inl rfl) (pe_op op_add_str (pv 6) (pe_ix ix_str (pv 0) (pe_bmK (K := K) rfl F.plainAttrs_list F.slot_list_index F.type_list_index (mt_indexK (K := K) rfl) (pv 5) (pa_cons (pe_slice sl_str (pv 3) (po_some (pv 7)) (po_some (pv 9))) pa_nil) (by rfl) (by rfl) (by rfl) (by rfl) (by rfl)) (fun _ _ => rfl))))
    (pss_one (ps_set (i := 7) sc_decoded.nd rfl (.inl rfl) (pv 9))))))))
    (pss_cons (ps_if (pt_cmpR op_lt (pv 7) (pe_callB call_len_str (by rfl) T.z_len b_len (pa_cons (pv 3) pa_nil)) (nomark _))
    (pss_one (ps_rz T.x_BadBits rfl (by decide))) pss_nil)
    (pss_one (ps_ret (pv 6)))))))))))), ?_⟩
    have lz : (S ls).length = ls.length := S_len ls
    -- the letters
    refine ⟨_, rfl, _, rfl, fun D hD => lcPs (T := tK K) w_str hD (by omega) (fun _ _ => trivial) (fun i => .bl (okSg (ls.getD i 0))) ?_ fun H2 x2 e2 => ?_⟩
    · intro i x H' hi hy x1 Q q
      obtain ⟨c, hc, rfl⟩ := hy
      have e : ls.getD i 0 = c := by rw [List.getD_eq_getElem?_getD, hc]; rfl
      rw [e] at q
      refine ⟨_, rfl, sg c, rfl, by show (S [c]).length ≤ _; rw [S_len]; exact (by decide : 1 ≤ 100000), fun c2 h2 => ?_, fun h2 => absurd (S_len [c]) h2⟩
      rw [← sg_inj h2]
      exact q _ .refl
    have eb : ((List.range ls.length).map fun i => V.bl (okSg (ls.getD i 0))) = (ls.map okSg).map V.bl := by
      have := kept_gen 0 (fun _ => true) (fun c => V.bl (okSg c)) ls
      rw [kept_all] at this
      rw [this, List.filter_eq_self.mpr (fun _ _ => rfl), List.map_map]
      rfl
    rw [eb] at e2
    have x2 := Xg.up x2
    refine ⟨D, ls.map okSg, rfl, SqL.of e2, _, rfl, ite2 (fun h3 => ?_) (fun h3 => ?_)⟩
    · refine iteT (q1 (fun g => ?_) H2 x2)
      have : ((ls.map okSg).all id) = true := by
        rw [List.all_map, List.all_eq_true]
        exact g.1
      rw [this] at h3
      cases h3
    have hok : ∀ c ∈ ls, okSg c = true := by
      cases zz : (ls.map okSg).all id with
      | true =>
        rw [List.all_map, List.all_eq_true] at zz
        exact zz
      | false =>
        rw [zz] at h3
        exact absurd rfl h3
    clear h3 eb e2
    refine ⟨_, rfl, ls, rfl, by omega, fun p3 n3 => ?_⟩
    generalize hH : upd H2 p3 _ = H3
    have x3 := x2.trans (newE (lo := True) (T := tK K) hH n3)
    have e3 : H3 p3 = some (.lst ((ls.map sg).map V.str)) := by rw [atE hH, List.map_map]; rfl
    clear hH n3
    have lzc : (S ls).cps.size = ls.length := lz
    refine ⟨_, rfl, S ls, rfl, Nat.lt_of_le_of_lt (show (S ls).cps.size + 1 ≤ 1001 by omega) (by decide), fun ys p4 s nd mm n4 => ?_⟩
    have e := letters_are h128 s nd mm
    subst e
    generalize hH : upd H3 p4 _ = H4
    have y4 := newE (lo := True) (T := tK K) hH n4
    have e4 : H4 p4 = some (.lst (((ltr ls).map sg).map V.str)) := atE hH
    have e3 := y4.lst e3
    have x4 := x3.trans y4
    clear hH n4 y4 s nd mm
    have shk : ∀ l : List Nat, (∀ c ∈ l, c < 128) → Sh 64 (.list ((l.map sg).map .str)) := fun l h => sh_strs fun x hx => by
      obtain ⟨c, hc, rfl⟩ := List.mem_map.mp hx
      exact strOk_S fun d hd => by
        rw [List.mem_singleton.mp hd]
        have := h c hc
        omega
    refine neD_of (dp_strs (SqL.of e3)) (dp_strs (SqL.of e4)) (shk ls h128) (shk _ fun c hc => (ltr_mem.mp hc).1) ⟨_, rfl, ?_⟩
    rw [eqv_strs]
    by_cases hri : ls.map sg = (ltr ls).map sg
    · have hri2 : ls = ltr ls := (List.map_inj_right (f := sg) fun x y h => sg_inj h).mp hri
      have gL : GoodL ls := ⟨hok, hri2⟩
      obtain ⟨q3, q4⟩ := q2 gL
      rw [decide_eq_true hri]
      refine iteF ?_
      have hzs4 := x4.seq hzs
      refine ⟨_, rfl, a, _, rfl, .inl hzs4, _, rfl, _, rfl, by rw [lz]; exact nfits (by omega), rfl, _, rfl, ite2 (fun h5 => ?_) (fun h5 => ?_)⟩
      · refine q3 (.inl fun e => ?_) H4 x4
        rw [List.length_map, lz, e, decide_eq_true rfl] at h5
        cases h5
      have hlen : zs.length = ls.length := by
        by_cases e : zs.length = ls.length
        · exact e
        · exact absurd (show (!decide (V.int (((zs.map V.int).length : Nat) : Int) = V.int (((S ls).length : Nat) : Int))) = true by
            rw [List.length_map, lz, decide_eq_false fun h => e (by injection h with h; omega)]
            rfl) h5
      clear h5 e3 e4
      refine ⟨_, rfl, a, zs, rfl, hzs4, hlz, fun fs efs F H5 row x5 nrow erow => ?_, fun bad H5 x5 => q3 (.inr bad) H5 (x4.trans x5)⟩
      have lfs : fs.length = ls.length := by rw [← hlen, efs, List.length_map]
      obtain ⟨q5, q6⟩ := q4 fs efs lfs F
      have x5 := x4.trans x5
      clear q1 q2 q3 q4 hzs4 x4 x3 x2
      refine ⟨_, rfl, z, rfl, by omega, fun hb H6 x6 => ?_, fun hb H6 x6 => q5 (.inl fun bs e => hb ⟨bs, e⟩) H6 (x5.trans x6.up)⟩
      obtain ⟨bs, rfl⟩ := hb
      have erow := x6.up.lst erow
      have x6 := x5.trans x6.up
      rw [sb_len] at hz
      have hzl : (sb bs).length ≤ sizeLine := by rw [sb_len]; exact nfits (by omega)
      refine ⟨_, rfl, _, _, rfl, rfl, _, rfl, ite2 (fun h1 => ?_) (fun h1 => ?_)⟩
      rotate_left
      · exact ⟨_, rfl, iteT (q5 (.inr fun h => h1 (decide_eq_true h.1)) H6 x6)⟩
      have h1 := of_decide_eq_true h1
      refine ⟨_, _, rfl, rfl, _, rfl, ite2 (fun h2 => ?_) (fun h2 => ?_)⟩
      · refine q5 (.inr fun h => ?_) H6 x6
        rw [decide_eq_true h.2] at h2
        cases h2
      have h2 : many ≤ 512 := by
        by_cases h3 : many ≤ 512
        · exact h3
        · exact absurd (show (!decide (many ≤ 512)) = true by rw [decide_eq_false h3]; rfl) h2
      obtain ⟨n, rfl⟩ : ∃ n : Nat, many = n := ⟨many.toNat, by omega⟩
      obtain ⟨q7, q8⟩ := q6 bs n rfl rfl (by omega) (by omega)
      clear q5 q6
      have hn : ((n : Int)).toNat = n := by omega
      have cut : ∀ at_ e : Nat, cutS (sb bs) (some ((at_ : Nat) : Int)) (some ((at_ + e : Nat) : Int)) = sb ((bs.drop at_).take e) := fun at_ e => by
        rw [cut_sb, List.drop_take, Nat.add_sub_cancel_left]
      refine ⟨_, rfl, _, rfl, by omega, by omega, for_it w_range (fun i σ H' => Xt (tK K) H H' ∧ H' row = some (.lst ((wrds fs).map fun x => V.str (sb x))) ∧ ∃ (is : List Nat) (at_ : Nat) (t4 t8 t9 : Option V), rdK (wrds fs) i bs = some (is, bs.drop at_) ∧ at_ ≤ bs.length ∧ is.length = i ∧ σ = [some (.str (S ls)), some (.ref a), some (.int (n : Int)), some (.str (sb bs)), t4, some (.ref row), some (.str (S (is.map fun i => ls.getD i 0))), some (.int (at_ : Int)), t8, t9])
        ⟨x6, erow, [], 0, _, _, _, rfl, Nat.zero_le _, rfl, rfl⟩ (fun _ _ _ _ _ => trivial) ?_ ?_⟩
      · intro i x σ Ha Hb hi hp hy
        obtain ⟨xa, erow, is, at_, t4, t8, t9, hr0, hat, hil, rfl⟩ := hp
        obtain ⟨rfl, rfl⟩ := hy
        rw [hn] at hi
        obtain ⟨r, hr⟩ : ∃ r, r = bs.drop at_ := ⟨_, rfl⟩
        have lr : r.length = bs.length - at_ := by rw [hr, List.length_drop]
        have cut : ∀ e : Nat, cutS (sb bs) (some ((at_ : Nat) : Int)) (some ((at_ + e : Nat) : Int)) = sb (r.take e) := fun e => by rw [hr]; exact cut at_ e
        rw [← hr] at hr0
        refine ⟨_, rfl, ⟨fun m σ H' => ∃ e : Nat, m + e = r.length ∧ H' = Hb ∧ (∀ e', e' < e → r.take e' ∉ wrds fs) ∧ σ = [some (.str (S ls)), some (.ref a), some (.int (n : Int)), some (.str (sb bs)), t4, some (.ref row), some (.str (S (is.map fun i => ls.getD i 0))), some (.int (at_ : Int)), some (.int (0 + (i : Int))), some (.int ((at_ + e : Nat) : Int))],
          ⟨r.length, 0, rfl, rfl, (fun e' h => absurd h (by omega)), rfl⟩, fun m σ H' hW => ?_⟩⟩
        obtain ⟨e, hme, rfl, hbef, rfl⟩ := hW
        refine ⟨_, rfl, _, rfl, _, rfl, hzl, _, _, rfl, rfl, _, rfl, ite2 (fun h3 => ?_) (fun h3 => ?_)⟩
        · have h3 := of_decide_eq_true h3
          rw [sb_len] at h3
          refine ⟨_, rfl, _, rfl, _, rfl, _, rfl, _, rfl, sb bs, rfl, hzl, _, rfl, row, _, rfl, .inl (SqL.of erow), rfl, flat_sb _, _, rfl, ?_⟩
          rw [cut e]
          show ite (((!inV (V.str (sb (r.take e))) ((wrds fs).map fun x => V.str (sb x)))) = true) _ _
          rw [inV_sb]
          by_cases hin : r.take e ∈ wrds fs
          · rw [decide_eq_true hin]
            refine iteF ?_
            have hex : e = r.length ∨ r.take e ∈ wrds fs := .inr hin
            refine ⟨_, rfl, _, rfl, _, rfl, _, rfl, _, rfl, sb bs, rfl, hzl, _, rfl, row, _, rfl, .inl (SqL.of erow), rfl, flat_sb _, _, rfl, ?_⟩
            rw [cut e]
            show ite (((!inV (V.str (sb (r.take e))) ((wrds fs).map fun x => V.str (sb x)))) = true) _ _
            rw [inV_sb]
            by_cases hin2 : r.take e ∈ wrds fs
            · rw [decide_eq_true hin2]
              refine iteF ?_
              obtain ⟨j, hj⟩ := List.getElem?_of_mem hin2
              have hjl : j < fs.length := by rw [← wrds_len fs]; exact (List.getElem?_eq_some_iff.mp hj).1
              have hrd := rd_of F hj (List.take_prefix e r)
              have hst := rdK_step hr0 hrd
              have egd : ((wrds fs).getD j []).length = e := by
                rw [List.getD_eq_getElem?_getD, hj]
                show (r.take e).length = e
                rw [List.length_take]
                omega
              rw [egd] at hst
              have hlc : ls[j]? = some (ls.getD j 0) := by rw [List.getD_eq_getElem?_getD, List.getElem?_eq_getElem (by omega)]; rfl
              refine ⟨_, rfl, _, rfl, _, rfl, .inl ⟨rfl, _, SqL.of erow⟩, _, rfl, _, rfl, _, rfl, _, rfl, _, rfl, sb bs, rfl, hzl, row, _, .str (sb (r.take e)), j, .str (sb (r.take e)), ?_, ?_, SqL.of erow, rfl, flat_sb _, by rw [List.getElem?_map, hj]; rfl, beq_self_eq_true _, fun m' z' hm' hz' => ?_, S ls, _, ls.getD j 0, rfl, rfl, by rw [lz]; exact nfits (by omega), atI_nat hlc, _, _, rfl, rfl, ?_, gv (v := .str (S ((is ++ [j]).map fun i => ls.getD i 0))) ?_ ?_⟩
              · rfl
              · rw [cut e]
              · rw [List.getElem?_map] at hz'
                obtain ⟨y, hy, rfl⟩ := Option.map_eq_some_iff.mp hz'
                show (sb y == sb (r.take e)) = false
                refine beq_eq_false_iff_ne.mpr fun z => ?_
                have := sb_inj z
                rw [this] at hy
                have := wrds_free F hy hj (List.prefix_refl _)
                omega
              · show (S (is.map fun i => ls.getD i 0)).length + (S [ls.getD j 0]).length ≤ _
                rw [S_len, S_len, List.length_map, hil]
                exact nfits (by simp; omega)
              · rw [List.map_append]
                exact congrArg V.str (S_app _ _)
              · have e9 : r.drop e = bs.drop (at_ + e) := by rw [hr, List.drop_drop]
                rw [e9] at hst
                exact ⟨_, rfl, xa, erow, is ++ [j], at_ + e, _, _, _, hst, by omega, by rw [List.length_append, hil]; rfl, rfl⟩
            · rw [decide_eq_false hin2]
              refine iteT (q8 (fun js e9 => ?_) _ xa)
              have := rdK_none (rdK_stop hr0 (rd_gone F (by omega) hbef hex hin2)) n (by omega)
              rw [this] at e9
              cases e9
          · rw [decide_eq_false hin]
            refine iteT ⟨fun σ' H'' => ∃ m', m' < m ∧ ∃ e : Nat, m' + e = r.length ∧ H'' = H' ∧ (∀ e', e' < e → r.take e' ∉ wrds fs) ∧ σ' = [some (.str (S ls)), some (.ref a), some (.int (n : Int)), some (.str (sb bs)), t4, some (.ref row), some (.str (S (is.map fun i => ls.getD i 0))), some (.int (at_ : Int)), some (.int (0 + (i : Int))), some (.int ((at_ + e : Nat) : Int))], fun _ _ h => h, ?_⟩
            refine ⟨_, rfl, _, _, rfl, rfl, m - 1, by omega, e + 1, by omega, rfl, fun e' he' => ?_, rfl⟩
            rcases Nat.lt_or_ge e' e with z | z
            · exact hbef e' z
            · rw [show e' = e by omega]
              exact hin
        · refine iteF ?_
          have hex : e = r.length ∨ r.take e ∈ wrds fs := .inl (by
            by_cases z : (((at_ + e : Nat) : Int)) < (((sb bs).length : Nat) : Int)
            · exact absurd (decide_eq_true z) h3
            · rw [sb_len] at z
              omega)
          refine ⟨_, rfl, _, rfl, _, rfl, _, rfl, _, rfl, sb bs, rfl, hzl, _, rfl, row, _, rfl, .inl (SqL.of erow), rfl, flat_sb _, _, rfl, ?_⟩
          rw [cut e]
          show ite (((!inV (V.str (sb (r.take e))) ((wrds fs).map fun x => V.str (sb x)))) = true) _ _
          rw [inV_sb]
          by_cases hin2 : r.take e ∈ wrds fs
          · rw [decide_eq_true hin2]
            refine iteF ?_
            obtain ⟨j, hj⟩ := List.getElem?_of_mem hin2
            have hjl : j < fs.length := by rw [← wrds_len fs]; exact (List.getElem?_eq_some_iff.mp hj).1
            have hrd := rd_of F hj (List.take_prefix e r)
            have hst := rdK_step hr0 hrd
            have egd : ((wrds fs).getD j []).length = e := by
              rw [List.getD_eq_getElem?_getD, hj]
              show (r.take e).length = e
              rw [List.length_take]
              omega
            rw [egd] at hst
            have hlc : ls[j]? = some (ls.getD j 0) := by rw [List.getD_eq_getElem?_getD, List.getElem?_eq_getElem (by omega)]; rfl
            refine ⟨_, rfl, _, rfl, _, rfl, .inl ⟨rfl, _, SqL.of erow⟩, _, rfl, _, rfl, _, rfl, _, rfl, _, rfl, sb bs, rfl, hzl, row, _, .str (sb (r.take e)), j, .str (sb (r.take e)), ?_, ?_, SqL.of erow, rfl, flat_sb _, by rw [List.getElem?_map, hj]; rfl, beq_self_eq_true _, fun m' z' hm' hz' => ?_, S ls, _, ls.getD j 0, rfl, rfl, by rw [lz]; exact nfits (by omega), atI_nat hlc, _, _, rfl, rfl, ?_, gv (v := .str (S ((is ++ [j]).map fun i => ls.getD i 0))) ?_ ?_⟩
            · rfl
            · rw [cut e]
            · rw [List.getElem?_map] at hz'
              obtain ⟨y, hy, rfl⟩ := Option.map_eq_some_iff.mp hz'
              show (sb y == sb (r.take e)) = false
              refine beq_eq_false_iff_ne.mpr fun z => ?_
              have := sb_inj z
              rw [this] at hy
              have := wrds_free F hy hj (List.prefix_refl _)
              omega
            · show (S (is.map fun i => ls.getD i 0)).length + (S [ls.getD j 0]).length ≤ _
              rw [S_len, S_len, List.length_map, hil]
              exact nfits (by simp; omega)
            · rw [List.map_append]
              exact congrArg V.str (S_app _ _)
            · have e9 : r.drop e = bs.drop (at_ + e) := by rw [hr, List.drop_drop]
              rw [e9] at hst
              exact ⟨_, rfl, xa, erow, is ++ [j], at_ + e, _, _, _, hst, by omega, by rw [List.length_append, hil]; rfl, rfl⟩
          · rw [decide_eq_false hin2]
            refine iteT (q8 (fun js e9 => ?_) _ xa)
            have := rdK_none (rdK_stop hr0 (rd_gone F (by omega) hbef hex hin2)) n (by omega)
            rw [this] at e9
            cases e9
      · intro σ Ha hp
        obtain ⟨xa, erow, is, at_, t4, t8, t9, hr0, hat, hil, rfl⟩ := hp
        rw [hn] at hr0 hil
        refine ⟨_, rfl, _, rfl, _, rfl, hzl, _, _, rfl, rfl, _, rfl, ite2 (fun h3 => ?_) (fun h3 => ?_)⟩
        · have h3 := of_decide_eq_true h3
          rw [sb_len] at h3
          refine q8 (fun js e => ?_) Ha xa
          rw [e] at hr0
          have := congrArg (fun o : Option (List Nat × Wd) => o.map fun p => p.2.length) hr0
          have h4 : some ([] : Wd).length = some (bs.drop at_).length := this
          injection h4 with h4
          rw [List.length_drop] at h4
          simp at h4
          omega
        · have h4 : bs.drop at_ = [] := List.drop_eq_nil_of_le (by
            by_cases z : ((at_ : Nat) : Int) < (((sb bs).length : Nat) : Int)
            · exact absurd (decide_eq_true z) h3
            · rw [sb_len] at z
              omega)
          rw [h4] at hr0
          exact ⟨_, rfl, q7 is hr0 Ha xa⟩
    · rw [decide_eq_false hri]
      refine iteT (q1 (fun g => hri (by rw [← g.2])) H4 x4)
end
end Tw

set_option maxHeartbeats 4000000
namespace Tw
open PySem PySem.Spec PyProof.Rows L2 LamX
section
variable {P : Program} {w : World} {K : PySem.W.Frag} {mg : Str → Option Value} {base : Heap}
theorem okSg_at {l : List Nat} (h : ∀ c ∈ l, okSg c = true) {c : Nat} {l2 : List Nat} (h2 : ∀ c ∈ l2, okSg c = true) (hc : c ∈ l) : ∀ d ∈ l2 ++ [c], okSg d = true := fun d hd => by
  rcases List.mem_append.mp hd with hd | hd
  · exact h2 d hd
  · rw [List.mem_singleton.mp hd]
    exact h c hc
def abc : List (List Nat) := [[97, 98], [97], [97, 98, 99, 100, 32, 126], [116, 104, 101, 32, 113, 117, 105, 99, 107, 32, 98, 114, 111, 119, 110, 32, 102, 111, 120, 32, 106, 117, 109, 112, 115], [33, 48, 97, 65, 122, 90, 126], [32]]
theorem abc_ok : ∀ l ∈ abc, l ≠ [] ∧ l.length ≤ 25 ∧ ∀ c ∈ l, okSg c = true := by decide
theorem abc_txt : [V.str "ab", V.str "a", V.str "abcd ~", V.str "the quick brown fox jumps", V.str "!0aAzZ~", V.str " "] = abc.map fun l => V.str (S l) := by
  have e : ["ab", "a", "abcd ~", "the quick brown fox jumps", "!0aAzZ~", " "].map Str.ofString = abc.map S := by decide +kernel
  have := congrArg (List.map V.str) e
  rw [List.map_map, List.map_map] at this
  exact this
def spLText (K : PySem.W.Frag) : Sp := fun vs H Q E => ∃ (m : Int) (n : Nat), vs = [.int m, .int n] ∧ 0 ≤ m ∧ n ≤ 200 ∧ ∀ H' l, Xt (tK K) H H' → l.length ≤ n → (∀ c ∈ l, okSg c = true) → Q (.str (S l)) H'
theorem ok__law_text (T : Tx K mg) : OkN P w K mg base ("_law_text", none) 2 ["_law_more", "_law_most"] (spLText K) := by
  refine T.F__law_text.ok sc__law_text (fun vs H Q E h => ?_) (fun cdv A outer s H vs Q E hr h => ?_)
  · obtain ⟨m, n, rfl, _⟩ := h
    rfl
  · obtain ⟨m, n, rfl, hm, hn, q⟩ := h
    refine ⟨_, (pss_cons (ps_set (i := 2) sc__law_text.nd rfl (.inl rfl) (pe_ix (ix_listK (K := K) rfl) (pe_lst (pa_cons pe_str (pa_cons pe_str (pa_cons pe_str (pa_cons pe_str (pa_cons pe_str (pa_cons pe_str pa_nil))))))) (pe_op op_mod (pv 0) pe_int) (fun _ _ => rfl)))
    (pss_cons (ps_set (i := 3) sc__law_text.nd rfl (.inl rfl) pe_str)
    (pss_cons (ps_for (passes_of rfl) rfl (pi_range1 (by rfl) T.z_range (pa_cons (pe_op op_mod (pe_op op_fdiv (pv 0) pe_int) (pe_op op_add (pv 1) pe_int)) pa_nil)) (pg_name (i := 4) sc__law_text.nd rfl (.inl rfl))
    (pss_cons (ps_set (i := 5) sc__law_text.nd rfl (.inl rfl) (pe_callS (ok__law_drawn T) (hr.mono (by decide)) (by rfl) T.g__law_drawn T.F__law_drawn.kp T.B__law_drawn psE (pa_cons (pv 0) (pa_cons (pv 4) pa_nil))))
    (pss_one (ps_if (pt_cmpR op_gt (pe_op op_mod (pv 5) pe_int) pe_int (nomark _))
    (pss_one (ps_set (i := 3) sc__law_text.nd rfl (.inl rfl) (pe_op op_add_str (pv 3) (pe_ix ix_str (pv 2) (pe_op op_mod (pe_op op_fdiv (pv 5) pe_int) (pe_callB (call_min2 rfl) (by rfl) T.z_min b_min (pa_cons (pe_callB call_len_str (by rfl) T.z_len b_len (pa_cons (pv 2) pa_nil)) (pa_cons pe_int pa_nil)))) (fun _ _ => rfl))))) (pss_one (ps_set (i := 3) sc__law_text.nd rfl (.inl rfl) (pe_op op_add_str (pv 3) (pe_ix ix_str (pv 2) (pe_op op_mod (pe_op op_fdiv (pv 5) pe_int) (pe_callB call_len_str (by rfl) T.z_len b_len (pa_cons (pv 2) pa_nil))) (fun _ _ => rfl)))))))))
    (pss_one (ps_ret (pv 3)))))), ?_⟩
    refine ⟨by exact (by decide : 6 ≤ sizeLine), fun p np => ?_⟩
    generalize hH : upd H p _ = H1
    have x1 : Xt (tK K) H H1 := newE hH np
    have ep : H1 p = some (.lst (abc.map fun l => V.str (S l))) := by rw [atE hH]; exact congrArg (fun z => some (HO.lst z)) abc_txt
    clear hH np
    obtain ⟨j, hj, hj2⟩ : ∃ j : Nat, m % 6 = j ∧ j < 6 := ⟨(m % 6).toNat, by omega, by omega⟩
    obtain ⟨L, hL⟩ : ∃ L, abc[j]? = some L := ⟨abc[j]'hj2, List.getElem?_eq_getElem hj2⟩
    obtain ⟨L0, L25, Lok⟩ := abc_ok L (List.mem_of_getElem? hL)
    have Lp : 0 < L.length := List.length_pos_iff.mpr L0
    refine ⟨_, rfl, _, _, rfl, rfl, (show (0 : Int) < 6 by decide), p, _, _, .str (S L), rfl, rfl, SqL.of ep, ?_, ?_⟩
    · rw [hj]
      exact atI_nat (by rw [List.getElem?_map, hL]; rfl)
    have n1 : (0 : Int) < (n : Int) + 1 := by omega
    have r1 := Int.emod_nonneg (m / 8) (show (n : Int) + 1 ≠ 0 by omega)
    have r2 := Int.emod_lt_of_pos (m / 8) n1
    have lS : (S L).length = L.length := S_len L
    refine ⟨_, rfl, _, _, rfl, rfl, ⟨by decide, by decide⟩, _, rfl, _, _, rfl, rfl, _, _, rfl, rfl, n1, _, rfl, by omega, by omega, for_it w_range (fun i σ H' => Xt (tK K) H H' ∧ ∃ (l : List Nat) (t4 t5 : Option V), l.length = i ∧ (∀ c ∈ l, okSg c = true) ∧ σ = [some (.int m), some (.int n), some (.str (S L)), some (.str (S l)), t4, t5])
      ⟨x1, [], _, _, rfl, (fun c h => by cases h), rfl⟩ (fun _ _ _ _ _ => trivial) ?_ ?_⟩
    · intro i x σ Ha Hb hi hp hy
      obtain ⟨xa, l, t4, t5, hl, hok, rfl⟩ := hp
      obtain ⟨rfl, rfl⟩ := hy
      rw [show (0 : Int) + (i : Int) = (i : Int) by omega]
      have hi : i ≤ 200 := by omega
      refine ⟨_, rfl, _, rfl, _, _, rfl, by omega, by omega, ?_⟩
      have hd0 := (dr_rng m (i : Int)).1
      generalize dr m (i : Int) = d at hd0 ⊢
      have fin : ∀ k : Nat, k < L.length → ∃ c, L[k]? = some c ∧ c ∈ L := fun k hk => ⟨L[k], List.getElem?_eq_getElem hk, List.getElem_mem hk⟩
      refine ⟨_, rfl, _, _, rfl, rfl, (show (0 : Int) < 3 by decide), _, _, rfl, rfl, _, rfl, ite2 (fun _ => ?_) (fun _ => ?_)⟩
      · obtain ⟨k, hk, hk2⟩ : ∃ k : Nat, d / 8 % (if (2 : Int) < ((S L).length : Int) then 2 else ((S L).length : Int)) = k ∧ k < L.length := by
          rw [lS]
          have hpos : (0 : Int) < (if (2 : Int) < (L.length : Int) then 2 else (L.length : Int)) := by split <;> omega
          have h1 := Int.emod_nonneg (d / 8) (show (if (2 : Int) < (L.length : Int) then 2 else (L.length : Int)) ≠ 0 by omega)
          have h2 := Int.emod_lt_of_pos (d / 8) hpos
          have h3 : (if (2 : Int) < (L.length : Int) then 2 else (L.length : Int)) ≤ L.length := by split <;> omega
          exact ⟨(d / 8 % (if (2 : Int) < (L.length : Int) then 2 else (L.length : Int))).toNat, by omega, by omega⟩
        obtain ⟨c, hc, hcm⟩ := fin k hk2
        refine ⟨_, rfl, _, rfl, _, rfl, _, _, rfl, rfl, ⟨by decide, by decide⟩, _, rfl, _, rfl, by rw [lS]; exact Nat.le_trans L25 (by decide), _, _, rfl, _, _, rfl, rfl, by rw [lS]; split <;> omega, S L, _, c, rfl, rfl, by rw [lS]; exact Nat.le_trans L25 (by decide), by rw [hk]; exact atI_nat (by show L[k]? = _; exact hc), _, _, rfl, rfl, ?_, ?_⟩
        · show (S l).length + (S [c]).length ≤ _
          rw [S_len, S_len, hl]
          exact Nat.le_trans (show i + 1 ≤ 201 by omega) (by decide)
        · exact gv (v := .str (S (l ++ [c]))) (congrArg V.str (S_app l [c])) ⟨xa, l ++ [c], _, _, by rw [List.length_append, hl]; rfl, okSg_at Lok hok hcm, rfl⟩
      · obtain ⟨k, hk, hk2⟩ : ∃ k : Nat, d / 8 % ((S L).length : Int) = k ∧ k < L.length := by
          rw [lS]
          have h1 := Int.emod_nonneg (d / 8) (show (L.length : Int) ≠ 0 by omega)
          have h2 := Int.emod_lt_of_pos (d / 8) (show (0 : Int) < (L.length : Int) by omega)
          exact ⟨(d / 8 % (L.length : Int)).toNat, by omega, by omega⟩
        obtain ⟨c, hc, hcm⟩ := fin k hk2
        refine ⟨_, rfl, _, rfl, _, rfl, _, _, rfl, rfl, ⟨by decide, by decide⟩, _, rfl, _, rfl, by rw [lS]; exact Nat.le_trans L25 (by decide), _, _, rfl, rfl, by rw [lS]; omega, S L, _, c, rfl, rfl, by rw [lS]; exact Nat.le_trans L25 (by decide), by rw [hk]; exact atI_nat (by show L[k]? = _; exact hc), _, _, rfl, rfl, ?_, ?_⟩
        · show (S l).length + (S [c]).length ≤ _
          rw [S_len, S_len, hl]
          exact Nat.le_trans (show i + 1 ≤ 201 by omega) (by decide)
        · exact gv (v := .str (S (l ++ [c]))) (congrArg V.str (S_app l [c])) ⟨xa, l ++ [c], _, _, by rw [List.length_append, hl]; rfl, okSg_at Lok hok hcm, rfl⟩
    · intro σ Ha hp
      obtain ⟨xa, l, t4, t5, hl, hok, rfl⟩ := hp
      exact ⟨_, rfl, q Ha l xa (by omega) hok⟩
end
end Tw

set_option maxHeartbeats 4000000
namespace Tw
open PySem PySem.Spec PyProof.Rows L2 LamX
section
variable {P : Program} {w : World} {K : PySem.W.Frag} {mg : Str → Option Value} {base : Heap}
theorem hp__law_word (T : Tx K mg) {Tt : List (Addr × Str)} : FnHp P w K mg base 1 (He.fAd K ("_law_word", none)) (fdOf K ("_law_word", none)) ["_law_e"] (spWord K Tt) := by
  refine fn_hp T.F__law_word sc__law_word (fun p vs H Q h => ?_) (fun cdv A outer s H vs Q p hot hr h => ?_)
  · obtain ⟨x, hx, rfl, _⟩ := h
    rfl
  · obtain ⟨x, hx, rfl, hz, hf, q⟩ := h
    have b := bad_of T.exb hx
    have hC := b.c
    obtain ⟨a, oe⟩ := p
    have hp : (a, oe) ∈ (L2H.cxH CX0 P w K mg base N__law_word "_law_word" (defScope s__law_word) (He.fAd K ("_law_word", none)) cdv A outer s H E0 (a, oe)).pn := List.mem_cons_self
    have hcx : L2H.HotC (L2H.cxH CX0 P w K mg base N__law_word "_law_word" (defScope s__law_word) (He.fAd K ("_law_word", none)) cdv A outer s H E0 (a, oe)) := ⟨_, hot, hp⟩
    refine ⟨_, (pss_cons (ps_set (i := 1) sc__law_word.nd rfl (.inl rfl) (pe_lst (pa_cons (pe_callB (call_isP hC hp hz hf) (by rfl) T.z_isinstance b_isinstance (pa_cons (pv 0) (pa_cons (pe_glob (v := .ref _) (by rfl) T.g_BadNumber rfl) pa_nil))) (pa_cons (pe_callB (call_isP hC hp hz hf) (by rfl) T.z_isinstance b_isinstance (pa_cons (pv 0) (pa_cons (pe_glob (v := .ref _) (by rfl) T.g_BadBits rfl) pa_nil))) (pa_cons (pe_callB (call_isP hC hp hz hf) (by rfl) T.z_isinstance b_isinstance (pa_cons (pv 0) (pa_cons (pe_glob (v := .ref _) (by rfl) T.g_BadPlace rfl) pa_nil))) pa_nil)))))
    (pss_cons (ps_set (i := 1) sc__law_word.nd rfl (.inl rfl) (pe_op op_cat (pv 1) (pe_lst (pa_cons (pe_callB (call_isP hC hp hz hf) (by rfl) T.z_isinstance b_isinstance (pa_cons (pv 0) (pa_cons (pe_glob (v := .ref _) (by rfl) T.g_BadText rfl) pa_nil))) pa_nil))))
    (pss_cons (ps_set (i := 1) sc__law_word.nd rfl (.inl rfl) (pe_op op_cat (pv 1) (pe_lst (pa_cons (pe_callB (call_isP hC hp hz hf) (by rfl) T.z_isinstance b_isinstance (pa_cons (pv 0) (pa_cons (pe_glob (v := .ref _) (by rfl) T.g_BadCode rfl) pa_nil))) (pa_cons (pe_callB (call_isP hC hp hz hf) (by rfl) T.z_isinstance b_isinstance (pa_cons (pv 0) (pa_cons (pe_glob (v := .ref _) (by rfl) T.g_BadTree rfl) pa_nil))) (pa_cons (pe_callB (call_isP hC hp hz hf) (by rfl) T.z_isinstance b_isinstance (pa_cons (pv 0) (pa_cons (pe_glob (v := .ref _) (by rfl) T.g_TooMany rfl) pa_nil))) pa_nil))))))
    (pss_cons (ps_if (PW.pt (pw_or (pt_cmpR op_ne (pe_callB (cr_sumH hcx) (by rfl) T.z_sum b_sum (pa_cons (pe_lcH (own := [("_law_flag", 2)]) hcx sc__law_word.nd (pv 1) (blkOk_by (N := N__law_word) (sc := defScope s__law_word) (by decide +kernel)) (fun _ _ _ _ _ => (pg_name (i := 2) sc__law_word.nd rfl (.inl rfl))) (fun _ _ _ _ _ => (pe_callTy call_int1 (by rfl) T.z_int b_int (pa_cons (pv 2) pa_nil)))) pa_nil)) pe_int (nomark _)) (pw_or1 (pt_not (pt_val (pe_callB (call_isP hC hp hz hf) (by rfl) T.z_isinstance b_isinstance (pa_cons (pv 0) (pa_cons (pe_bltn (v := .ty _) (by rfl) T.z_ValueError b_ValueError rfl) pa_nil))))))))
    (pss_one (ps_ret pe_str)) pss_nil)
    (pss_one (ps_ret (pe_ix (ix_listK (K := K) rfl) (pe_lst (pa_cons pe_str (pa_cons pe_str (pa_cons pe_str (pa_cons pe_str (pa_cons pe_str (pa_cons pe_str (pa_cons pe_str pa_nil)))))))) (pe_bmK (K := K) rfl F.plainAttrs_list F.slot_list_index F.type_list_index (mt_indexK (K := K) rfl) (pv 1) (pa_cons pe_bl pa_nil) (by rfl) (by rfl) (by rfl) (by rfl) (by rfl)) (fun _ _ => rfl)))))))), ?_⟩
    let c (y : Str) : V := .bl (decide (x = y))
    refine ⟨_, rfl, _, _, _, rfl, fun _ r => r, b.k "BadNumber" (by decide +kernel), _, rfl, _, _, _, rfl, fun _ r => r, b.k "BadBits" (by decide +kernel), _, rfl, _, _, _, rfl, fun _ r => r, b.k "BadPlace" (by decide +kernel), (by decide : 3 ≤ sizeLine), fun p1 n1 => ?_⟩
    have x1 : Xt Tt H (upd H p1 (.lst [c "BadNumber", c "BadBits", c "BadPlace"])) := .new n1
    have e1 : (upd H p1 (.lst [c "BadNumber", c "BadBits", c "BadPlace"])) p1 = some (.lst [c "BadNumber", c "BadBits", c "BadPlace"]) := upd_same ..
    generalize upd H p1 (.lst [c "BadNumber", c "BadBits", c "BadPlace"]) = H1 at x1 e1 ⊢
    refine ⟨_, rfl, _, rfl, _, _, _, rfl, fun _ r => r, b.k "BadText" (by decide +kernel), (by decide : 1 ≤ sizeLine), fun p2 n2 => ?_⟩
    have x2 : Xt Tt H (upd H1 p2 (.lst [c "BadText"])) := x1.trans (.new n2)
    refine ⟨_, _, _, _, rfl, rfl, (Xt.new (T := Tt) n2).lst e1, upd_same .., (by decide : 4 ≤ sizeLine), fun p3 n3 => ?_⟩
    have x3 := x2.trans (.new (T := Tt) (o := .lst [c "BadNumber", c "BadBits", c "BadPlace", c "BadText"]) n3)
    have e3 : (upd (upd H1 p2 (.lst [c "BadText"])) p3 (.lst [c "BadNumber", c "BadBits", c "BadPlace", c "BadText"])) p3 = some (.lst [c "BadNumber", c "BadBits", c "BadPlace", c "BadText"]) := upd_same ..
    show tSeq _ _ _ _ (upd (upd H1 p2 (.lst [c "BadText"])) p3 (.lst [c "BadNumber", c "BadBits", c "BadPlace", c "BadText"]))
    generalize upd (upd H1 p2 (.lst [c "BadText"])) p3 (.lst [c "BadNumber", c "BadBits", c "BadPlace", c "BadText"]) = H3 at x3 e3 ⊢
    refine ⟨_, rfl, _, rfl, _, _, _, rfl, fun _ r => r, b.k "BadCode" (by decide +kernel), _, rfl, _, _, _, rfl, fun _ r => r, b.k "BadTree" (by decide +kernel), _, rfl, _, _, _, rfl, fun _ r => r, b.k "TooMany" (by decide +kernel), (by decide : 3 ≤ sizeLine), fun p4 n4 => ?_⟩
    refine ⟨_, _, _, _, rfl, rfl, (Xt.new (T := Tt) n4).lst e3, upd_same .., (by decide : 7 ≤ sizeLine), fun p5 n5 => ?_⟩
    have x5 := (x3.trans (.new (T := Tt) (o := .lst [c "BadCode", c "BadTree", c "TooMany"]) n4)).trans (.new (T := Tt) (o := .lst (seven.map c)) n5)
    have e5 : (upd (upd H3 p4 (.lst [c "BadCode", c "BadTree", c "TooMany"])) p5 (.lst (seven.map c))) p5 = some (.lst (seven.map c)) := upd_same ..
    show tSeq _ _ _ _ (upd (upd H3 p4 (.lst [c "BadCode", c "BadTree", c "TooMany"])) p5 (.lst (seven.map c)))
    generalize upd (upd H3 p4 (.lst [c "BadCode", c "BadTree", c "TooMany"])) p5 (.lst (seven.map c)) = H5 at x5 e5 ⊢
    refine ⟨_, rfl, _, _, rfl, SqL.of e5, fun D hD => ⟨fun i H' => Xt Tt H H' ∧ H' p5 = some (.lst (seven.map c)) ∧ H' D = some (.lst ((seven.take i).map fun y => .int (if x = y then 1 else 0))), ?_, ?_, ?_, ?_⟩⟩
    · exact ⟨x5.trans (.new hD), (Xt.new (T := Tt) hD).lst e5, upd_same ..⟩
    · exact fun i H' h => SqL.of h.2.1
    · intro i v H' hv h
      refine ⟨rfl, ?_⟩
      obtain ⟨x6, h6, h7⟩ := h
      rw [List.getElem?_map] at hv
      obtain ⟨y, hy, rfl⟩ := Option.map_eq_some_iff.mp hv
      refine ⟨_, rfl, .inr ⟨_, rfl, _, h7, ?_, x6.mut (x5.nw (.of hD)) h7, ?_, ?_⟩⟩
      · rw [List.length_map, List.length_take]
        exact Nat.lt_of_le_of_lt (Nat.min_le_right _ _) (by decide)
      · rw [upd_ne (fun z => ?_)]
        · exact h6
        · rw [← z] at h7
          rw [h6] at h7
          have h8 := congrArg (fun o : Option HO => match o with | some (.lst (V.bl _ :: _)) => true | _ => false) h7
          cases i with
          | zero => cases h8
          | succ i => cases h8
      · rw [upd_same, List.take_add_one, hy, List.map_append]
        by_cases e : x = y
        · rw [decide_eq_true e]
          simp [e]
        · rw [decide_eq_false e]
          simp [e]
    · rintro H' ⟨x6, h6, h7⟩
      refine ⟨_, seven.map fun y => if x = y then 1 else 0, rfl, SqL.of ?_, ?_⟩
      · rw [h7]
        show some (HO.lst _) = some (HO.lst _)
        rw [List.map_map]
        rfl
      · have hs : (seven.map fun y => if x = y then (1 : Int) else 0).sum = 1 := by
          simp only [seven, List.mem_cons, List.not_mem_nil, or_false] at hx
          rcases hx with rfl | rfl | rfl | rfl | rfl | rfl | rfl <;> decide +kernel
        rw [hs]
        refine ⟨rfl, _, rfl, ite2 (fun z => absurd z (by decide)) fun _ => ?_⟩
        refine ⟨_, rfl, _, _, _, rfl, fun _ r => r, b.v, _, rfl, iteF ?_⟩
        refine ⟨by decide, fun p6 n6 => ?_⟩
        have h5 : (upd H' p6 (.lst (seven.map .str))) p5 = some (.lst (seven.map c)) := (Xt.new (T := Tt) n6).lst h6
        obtain ⟨j, hj, hl⟩ := List.mem_iff_getElem.mp hx
        have sq : SqL K (upd H' p6 (.lst (seven.map .str))) p5 (seven.map c) := SqL.of h5
        refine ⟨_, rfl, .inl ⟨rfl, _, sq⟩, p5, _, .bl true, j, .bl true, rfl, rfl, sq, rfl, ?_, ?_, rfl, ?_, ?_⟩
        · rw [List.all_eq_true]
          intro v hv
          obtain ⟨y, _, rfl⟩ := List.mem_map.mp hv
          rfl
        · rw [List.getElem?_map, List.getElem?_eq_getElem hj, hl]
          show some (V.bl (decide (x = x))) = _
          rw [decide_eq_true rfl]
        · intro m z hm hz
          rw [List.getElem?_map] at hz
          obtain ⟨y, hy, rfl⟩ := Option.map_eq_some_iff.mp hz
          have ne : x ≠ y := fun e => by
            have hm2 : m < seven.length := by omega
            rw [List.getElem?_eq_getElem hm2] at hy
            have hj3 : ∀ i (h : i < seven.length), ∀ k (h2 : k < seven.length), i < k → seven[i] ≠ seven[k] := by decide +kernel
            exact hj3 m hm2 j hj hm (by rw [hl, e]; exact Option.some.inj hy)
          show (decide (x = y) == true) = false
          rw [decide_eq_false ne]
          rfl
        · refine ⟨p6, seven.map .str, j, .str x, rfl, rfl, SqL.of (upd_same ..), atI_nat ?_, q _ (x6.trans (.new n6))⟩
          rw [List.getElem?_map, List.getElem?_eq_getElem hj, hl]
          rfl
end
def tTold (K : PySem.W.Frag) (t : XK → TE) : TE := fun σ H Q => Tabs (tK K) H ∧ ∀ H1, ExtN H H1 → Tabs (tK K) H1 → t (EW K (tK K) Q) σ H1 Q
section
variable {X : Cx} {K : PySem.W.Frag} {mg : Str → Option Value} {base : Heap}
theorem pe_told (T : Tx K mg) {at_ : He.Defn} {k : Nat} {params : Arguments} {body : Expr} {scope : Scope} {t : XK → TE} {p lpos pos : Pos}
    (TB : TabB base mg (He.cT K at_).1 (He.cT K at_).2) (hK : X.K = K) (hmg : X.mg = mg) (hbs : X.base = base) (hr : Room (k + 4) X.A) (hg : Gl X "_law_told") (hcode : X.env.code = .ref (He.cT K at_).1) (hmT : ((He.cT K at_).2, X.env.qual ++ "<lambda>") ∈ tK K)
    (hu : ∀ p ∈ tK K, p.1 = (He.cT K at_).2 → p.2 = X.env.qual ++ "<lambda>") (L : LamS X.env.scope scope) (hdef : defaultsOf params X.env = ([], []))
    (hbind : ∀ (q : Str) (cl : List (Str × Addr)) (pm cv ctv : Value), bindArgs (PySem.W.kla_fn "<lambda>" q params body scope cl pm cv ctv) ⟨[], []⟩ = pure [])
    (hbody : ∀ (A : Around) (outer : List Env) (s : Shared) (H : Hp) (E : XK) (f c' : Addr), Room (k + 2) (A.deeper (lamEnv X scope s.heap.objs.size f c')) → (∀ σ, PassesAt (L2N.CX X.prog X.w) (lamN X A outer s H E scope f c') σ E) → PE (lamN X A outer s H E scope f c') body (t E)) :
    PE X (.Call (.Name "_law_told" p) [.Lambda params body scope lpos] [] pos) (tTold K t) := by
  subst hK hmg hbs
  exact told_gen hg T.g__law_told T.F__law_told T.B__law_told sc__law_told rfl rfl rfl rfl T.g_TerseError T.g__law_word T.F__law_word.kp T.B__law_word (hp__law_word T) T.exb TB hcode hmT hu hr L hdef hbind fun A outer s H E f c' hr2 => hbody A outer s H E f c' hr2 fun σ => psL σ
end
end Tw

set_option maxHeartbeats 4000000
namespace Tw
open PySem PySem.Spec PyProof.Rows L2 LamX
section
variable {P : Program} {w : World} {K : PySem.W.Frag} {mg : Str → Option Value} {base : Heap}
def spLLeast (K : PySem.W.Frag) : Sp := fun vs H Q E => ∃ (a : Addr) (cs : List Nat), vs = [.ref a] ∧ SqL K H a (cs.map nV) ∧ cs.length ≤ 1000 ∧ ∀ H', Xt (tK K) H H' → Q (.int ((huff cs : Nat) : Int)) H'
theorem ok__law_least (T : Tx K mg) : OkN P w K mg base ("_law_least", none) 1 ["_law_counts"] (spLLeast K) := by
  refine T.F__law_least.ok sc__law_least (fun vs H Q E h => ?_) (fun cdv A outer s H vs Q E hr h => ?_)
  · obtain ⟨a, cs, rfl, _⟩ := h
    rfl
  · obtain ⟨a, cs, rfl, hcs, hl, q⟩ := h
    refine ⟨_, (pss_cons (ps_set (i := 1) sc__law_least.nd rfl (.inl rfl) (pe_callB (cr_sortedIK (K := K) rfl) (by rfl) T.z_sorted b_sorted (pa_cons (pv 0) pa_nil)))
    (pss_cons (ps_set (i := 2) sc__law_least.nd rfl (.inl rfl) pe_int)
    (pss_cons (ps_while (passes_of rfl) (pt_cmpR op_gt (pe_callB (call_len_seqK (K := K) rfl) (by rfl) T.z_len b_len (pa_cons (pv 1) pa_nil)) pe_int (nomark _))
    (pss_cons (ps_set (i := 2) sc__law_least.nd rfl (.inl rfl) (pe_op op_add (pe_op op_add (pv 2) (pe_ix (ix_listK (K := K) rfl) (pv 1) pe_int (fun _ _ => rfl))) (pe_ix (ix_listK (K := K) rfl) (pv 1) pe_int (fun _ _ => rfl))))
    (pss_one (ps_set (i := 1) sc__law_least.nd rfl (.inl rfl) (pe_callB (cr_sortedIK (K := K) rfl) (by rfl) T.z_sorted b_sorted (pa_cons (pe_op op_cat (pe_slice (sl_listK (K := K) rfl) (pv 1) (po_some pe_int) po_none) (pe_lst (pa_cons (pe_op op_add (pe_ix (ix_listK (K := K) rfl) (pv 1) pe_int (fun _ _ => rfl)) (pe_ix (ix_listK (K := K) rfl) (pv 1) pe_int (fun _ _ => rfl))) pa_nil))) pa_nil))))))
    (pss_one (ps_ret (pv 2)))))), ?_⟩
    refine ⟨_, rfl, a, toZ' cs, rfl, (by rw [toZV]; exact hcs), fun zs p pm so np => ?_⟩
    rw [sortZ pm so, toZV]
    generalize hH : upd H p _ = H1
    have x1 := newE (lo := True) (T := tK K) hH np
    have e1 : H1 p = some (.lst ((sortN cs).map nV)) := atE hH
    clear hH np pm so
    refine ⟨fun m σ H' => ∃ (p : Addr) (l : List Nat) (d : Nat), m = l.length ∧ l.length ≤ 1000 ∧ Xt (tK K) H H' ∧ H' p = some (.lst (l.map nV)) ∧ sortN l = l ∧ d + huffF l.length l = huff cs ∧ σ = [some (.ref a), some (.ref p), some (nV d)],
      ⟨_, p, sortN cs, 0, rfl, by rw [(sortN_perm cs).length_eq]; exact hl, x1, e1, sortN_fix cs, by rw [Nat.zero_add, (sortN_perm cs).length_eq]; exact huffF_perm _ (sortN_perm cs), rfl⟩, fun m σ H' hW => ?_⟩
    obtain ⟨p, l, d, rfl, hl2, x2, ep, hs, hd, rfl⟩ := hW
    refine ⟨_, rfl, p, _, rfl, .inl (SqL.of ep), _, _, rfl, rfl, _, rfl, ite2 (fun e => ?_) (fun e => ?_)⟩
    · have e := of_decide_eq_true e
      rw [List.length_map] at e
      refine ⟨fun σ' H'' => ∃ m', m' < l.length ∧ ∃ (p : Addr) (l : List Nat) (d : Nat), m' = l.length ∧ l.length ≤ 1000 ∧ Xt (tK K) H H'' ∧ H'' p = some (.lst (l.map nV)) ∧ sortN l = l ∧ d + huffF l.length l = huff cs ∧ σ' = [some (.ref a), some (.ref p), some (nV d)], fun _ _ h => h, ?_⟩
      obtain ⟨u, v, r, rfl⟩ : ∃ u v r, l = u :: v :: r := by
        match l, e with
        | [], h => simp at h
        | [_], h => simp at h
        | u :: v :: r, _ => exact ⟨u, v, r, rfl⟩
      refine ⟨_, rfl, _, rfl, p, _, 0, nV u, rfl, rfl, SqL.of ep, atI_nat (j := 0) rfl, _, _, rfl, rfl, _, rfl, p, _, 1, nV v, rfl, rfl, SqL.of ep, atI_nat (j := 1) rfl, _, _, rfl, rfl, gv (v := nV (d + u + v)) rfl ?_⟩
      refine ⟨_, rfl, _, rfl, p, _, rfl, SqL.of ep, fun p5 n5 => ?_⟩
      generalize hH : upd H' p5 _ = H5
      have y5 := newE (lo := True) (T := tK K) hH n5
      have e5 : H5 p5 = some (.lst (r.map nV)) := by
        rw [atE hH]
        exact congrArg (fun z => some (HO.lst z)) (cut_drop _ 2)
      clear hH n5
      have ep5 := y5.lst ep
      refine ⟨_, rfl, p, _, 0, nV u, rfl, rfl, SqL.of ep5, atI_nat (j := 0) rfl, _, rfl, p, _, 1, nV v, rfl, rfl, SqL.of ep5, atI_nat (j := 1) rfl, _, _, rfl, rfl, by exact (by decide : 1 ≤ sizeLine), fun p6 n6 => ?_⟩
      generalize hH : upd H5 p6 _ = H6
      have y6 := newE (lo := True) (T := tK K) hH n6
      have e6 : H6 p6 = some (.lst [nV (u + v)]) := atE hH
      clear hH n6
      have e5 := y6.lst e5
      refine ⟨_, _, _, _, rfl, rfl, e5, e6, by rw [List.length_map]; simp at hl2 ⊢; exact nfits (by omega), fun p7 n7 => ?_⟩
      generalize hH : upd H6 p7 _ = H7
      have y7 := newE (lo := True) (T := tK K) hH n7
      have e7 : H7 p7 = some (.lst ((toZ' (r ++ [u + v])).map V.int)) := by rw [atE hH, toZV, List.map_append]; rfl
      clear hH n7
      refine ⟨p7, toZ' (r ++ [u + v]), rfl, SqL.of e7, fun zs p8 pm so n8 => ?_⟩
      rw [sortZ pm so, toZV]
      generalize hH : upd H7 p8 _ = H8
      have y8 := newE (lo := True) (T := tK K) hH n8
      have e8 : H8 p8 = some (.lst ((sortN (r ++ [u + v])).map nV)) := atE hH
      have hl3 : (sortN (r ++ [u + v])).length = r.length + 1 := by rw [(sortN_perm _).length_eq]; simp
      refine ⟨r.length + 1, by simp, p8, sortN (r ++ [u + v]), d + u + v, hl3.symm, by rw [hl3]; simp at hl2; omega, x2.trans (y5.trans (y6.trans (y7.trans y8))), e8, sortN_fix _, ?_, rfl⟩
      rw [← hd, show (u :: v :: r).length = (r.length + 1) + 1 from rfl, huffF_step hs, hl3, huffF_perm (r.length + 1) ((sortN_perm (r ++ [u + v])).trans (List.perm_append_comm (l₁ := r) (l₂ := [u + v])))]
      show d + u + v + _ = d + (u + v + _)
      rw [Nat.add_assoc, Nat.add_assoc, Nat.add_assoc]
      rfl
    · have e : l.length ≤ 1 := by
        by_cases h : 1 < l.length
        · exact absurd (decide_eq_true (by rw [List.length_map]; omega)) e
        · omega
      rw [huffF_one _ e, Nat.add_zero] at hd
      rw [← hd] at q
      exact ⟨_, rfl, q H' x2⟩
end
end Tw

set_option maxHeartbeats 4000000
namespace Tw
open PySem PySem.Spec PyProof.Rows L2 LamX
section
variable {P : Program} {w : World} {K : PySem.W.Frag} {mg : Str → Option Value} {base : Heap}
/-- what is read: letters, or the word -/
def ResZ (ls : List Nat) (ws : List Wd) (n : Nat) (bs : Wd) (z : Str) : Prop := (∀ is, rdK ws n bs = some (is, []) → z = S (is.map fun i => ls.getD i 0)) ∧ ((∀ is, rdK ws n bs ≠ some (is, [])) → z = "BadBits")
def spLRead (K : PySem.W.Frag) : Sp := fun vs H Q E => ∃ (ls fs : List Nat) (row : Addr) (n : Nat) (bs : Wd), vs = [.str (S ls), .ref row, .int n, .str (sb bs)] ∧ H row = some (.lst ((wrds fs).map fun x => V.str (sb x))) ∧ Fill fs ∧ fs.length = ls.length ∧ ls.length ≤ 1000 ∧ n ≤ 1000 ∧ bs.length ≤ 10000 ∧
  ∀ H' z, Xt (tK K) H H' → ResZ ls (wrds fs) n bs z → Q (.str z) H'
theorem ok__law_read (T : Tx K mg) : OkN P w K mg base ("_law_read", none) 1 ["_law_letters", "_law_row", "_law_many", "_law_bits_here"] (spLRead K) := by
  refine T.F__law_read.ok sc__law_read (fun vs H Q E h => ?_) (fun cdv A outer s H vs Q E hr h => ?_)
  · obtain ⟨ls, fs, row, n, bs, rfl, _⟩ := h
    rfl
  · obtain ⟨ls, fs, row, n, bs, rfl, erow, F, hfl, hls, hn, hbs, q⟩ := h
    refine ⟨_, (pss_cons (ps_set (i := 4) sc__law_read.nd rfl (.inl rfl) pe_str)
    (pss_cons (ps_for (passes_of rfl) rfl (pi_range1 (by rfl) T.z_range (pa_cons (pv 2) pa_nil)) (pg_name (i := 5) sc__law_read.nd rfl (.inl rfl))
    (pss_cons (ps_setLc (i := 6) (own := [("_law_at", 7)]) rfl sc__law_read.nd rfl rfl (sw_true rfl rfl rfl (by decide +kernel)) (pi_range1 (by rfl) T.z_range (pa_cons (pe_callB (call_len_seqK (K := K) rfl) (by rfl) T.z_len b_len (pa_cons (pv 1) pa_nil)) pa_nil)) (blkOk_by (N := N__law_read) (sc := defScope s__law_read) (by decide +kernel)) (fun _ _ _ _ _ => (pg_name (i := 7) sc__law_read.nd rfl (.inl rfl))) (fun _ _ _ _ _ => (pts_one (pt_cmpR op_eq (pe_slice sl_str (pv 3) po_none (po_some (pe_callB call_len_str (by rfl) T.z_len b_len (pa_cons (pe_ix (ix_listK (K := K) rfl) (pv 1) (pv 7) (fun _ _ => rfl)) pa_nil)))) (pe_ix (ix_listK (K := K) rfl) (pv 1) (pv 7) (fun _ _ => rfl)) (nomark _)))) (fun _ _ _ _ _ => (pv 7)))
    (pss_cons (ps_if (pt_cmpR (op_eqDK (K := K) rfl hr.units) (pv 6) (pe_lst pa_nil) (nomark _))
    (pss_one (ps_ret pe_str)) pss_nil)
    (pss_cons (ps_set (i := 4) sc__law_read.nd rfl (.inl rfl) (pe_op op_add_str (pv 4) (pe_ix ix_str (pv 0) (pe_ix (ix_listK (K := K) rfl) (pv 6) pe_int (fun _ _ => rfl)) (fun _ _ => rfl))))
    (pss_one (ps_set (i := 3) sc__law_read.nd rfl (.inr rfl) (pe_slice sl_str (pv 3) (po_some (pe_callB call_len_str (by rfl) T.z_len b_len (pa_cons (pe_ix (ix_listK (K := K) rfl) (pv 1) (pe_ix (ix_listK (K := K) rfl) (pv 6) pe_int (fun _ _ => rfl)) (fun _ _ => rfl)) pa_nil))) po_none)))))))
    (pss_one (ps_ret (pe_ifExp (pt_cmpR op_eq (pv 3) pe_str (nomark _)) (pv 4) pe_str))))), ?_⟩
    have lz : (S ls).length = ls.length := S_len ls
    have lw : ((wrds fs).map fun x => V.str (sb x)).length = fs.length := by rw [List.length_map, wrds_len]
    have hn2 : ((n : Int)).toNat = n := by omega
    have fits : ∀ {r : Wd}, r.length ≤ 10000 → (sb r).length ≤ sizeLine := fun h => by rw [sb_len]; exact nfits (by omega)
    refine ⟨_, rfl, _, rfl, by omega, by omega, for_it w_range (fun i σ H' => Xt (tK K) H H' ∧ ∃ (is : List Nat) (r : Wd) (t5 t6 t7 : Option V), rdK (wrds fs) i bs = some (is, r) ∧ r.length ≤ 10000 ∧ is.length = i ∧ σ = [some (.str (S ls)), some (.ref row), some (.int (n : Int)), some (.str (sb r)), some (.str (S (is.map fun i => ls.getD i 0))), t5, t6, t7])
      ⟨.refl, [], bs, _, _, _, rfl, hbs, rfl, rfl⟩ (fun _ _ _ _ _ => trivial) ?_ ?_⟩
    · intro i x σ Ha Hb hi hp hy
      obtain ⟨xa, is, r, t5, t6, t7, hr0, hrl, hil, rfl⟩ := hp
      obtain ⟨rfl, rfl⟩ := hy
      rw [hn2] at hi
      have erow := xa.lst erow
      have ek : ((((wrds fs).map fun x => V.str (sb x)).length : Nat) : Int).toNat = (wrds fs).length := by rw [List.length_map]; omega
      refine ⟨_, rfl, row, _, rfl, .inl (SqL.of erow), _, rfl, by rw [lw]; omega, by rw [lw]; omega, fun D hD => lcF (T := tK K) w_range hD (by rw [ek, wrds_len]; omega) (fun _ _ => trivial) (fun i => r.take ((wrds fs).getD i []).length == (wrds fs).getD i []) (fun i => nV i) ?_ ?_ fun H2 x2 e2 => ?_⟩
      · intro i x H' hi hy x1 Q q
        rw [ek] at hi
        rw [show (0 : Int) + (i : Int) = (i : Int) by omega] at hy
        subst hy
        obtain ⟨y, hy⟩ : ∃ y, (wrds fs)[i]? = some y := ⟨_, List.getElem?_eq_getElem hi⟩
        have e : (wrds fs).getD i [] = y := by rw [List.getD_eq_getElem?_getD, hy]; rfl
        rw [e] at q
        obtain ⟨y', _, z', h1, _, _, h4, h5, _⟩ := wrds_word F (i := i) (by rw [← wrds_len fs]; exact hi)
        obtain rfl := Option.some.inj (hy.symm.trans h1)
        have hy94 := F.le _ (List.mem_of_getElem? h4)
        have hy1 : ((wrds fs).map fun x => V.str (sb x))[i]? = some (.str (sb y)) := by rw [List.getElem?_map, hy]; rfl
        have er := x1.lst erow
        have ls1 : (sb y).length ≤ sizeLine := fits (by omega)
        refine ⟨_, rfl, _, rfl, _, rfl, row, _, _, .str (sb y), rfl, rfl, SqL.of er, atI_nat hy1, _, rfl, ls1, _, rfl, sb r, rfl, fits hrl, _, rfl, _, rfl, row, _, _, .str (sb y), rfl, rfl, SqL.of er, atI_nat hy1, rfl, _, rfl, ?_⟩
        have e5 : decide (V.str (cutS (sb r) none (some (((sb y).length : Nat) : Int))) = V.str (sb y)) = (r.take y.length == y) := by
          rw [sb_len, cut_sbT, Bool.eq_iff_iff, decide_eq_true_eq, beq_iff_eq]
          constructor
          · intro h
            injection h with h
            exact sb_inj h
          · intro h
            rw [h]
        rw [e5]
        exact q _ .refl
      · intro i x H' hi hy hf x1 Q q
        rw [show (0 : Int) + (i : Int) = (i : Int) by omega] at hy
        subst hy
        exact ⟨_, rfl, q _ .refl⟩
      rw [ek] at e2
      have e2 : H2 D = some (.lst ((((List.range (wrds fs).length).filter fun i => r.take ((wrds fs).getD i []).length == (wrds fs).getD i [])).map nV)) := e2
      have hrd : rd (wrds fs) r = ((List.range (wrds fs).length).filter fun i => r.take ((wrds fs).getD i []).length == (wrds fs).getD i []).head? := rfl
      generalize ((List.range (wrds fs).length).filter fun i => r.take ((wrds fs).getD i []).length == (wrds fs).getD i []) = L at e2 hrd
      refine ⟨_, rfl, by exact (by decide : 0 ≤ sizeLine), fun p3 n3 => ?_⟩
      generalize hH : upd H2 p3 _ = H3
      have y3 := newE (lo := True) (T := tK K) hH n3
      have e3 : H3 p3 = some (.lst (([] : List Int).map V.int)) := atE hH
      clear hH n3
      have e2 := y3.lst e2
      have x3 := xa.trans (x2.trans y3)
      cases L with
      | nil =>
        refine eqD_same (d := .list (([] : List Int).map .int)) (dp_ints (SqL.of e2)) (dp_ints (SqL.of e3)) (sh_ints (n := 63)) ⟨_, rfl, iteT (q H3 _ x3 ⟨fun js e9 => ?_, fun _ => rfl⟩)⟩
        have := rdK_none (rdK_stop hr0 hrd) n (by omega)
        rw [this] at e9
        cases e9
      | cons j L =>
        have hrd : rd (wrds fs) r = some j := hrd
        have hst := rdK_step hr0 hrd
        obtain ⟨y, hy, hyp⟩ := rd_some hrd
        have hjl : j < fs.length := by rw [← wrds_len fs]; exact (List.getElem?_eq_some_iff.mp hy).1
        have egd : (wrds fs).getD j [] = y := by rw [List.getD_eq_getElem?_getD, hy]; rfl
        rw [egd] at hst
        have hy1 : ((wrds fs).map fun x => V.str (sb x))[j]? = some (.str (sb y)) := by rw [List.getElem?_map, hy]; rfl
        have hlc : ls[j]? = some (ls.getD j 0) := by rw [List.getD_eq_getElem?_getD, List.getElem?_eq_getElem (by omega)]; rfl
        have er := (x2.trans y3).lst erow
        have hyl : y.length ≤ 10000 := Nat.le_trans hyp.length_le hrl
        refine eqD_of (d := .list ((toZ' (j :: L)).map .int)) (dp_ints (SqL.of (by rw [e2, toZV]))) (dp_ints (SqL.of e3)) (sh_ints (n := 63)) (sh_ints (n := 63)) ⟨_, rfl, ?_⟩
        rw [eqv_ints, decide_eq_false (fun h => by cases h)]
        refine iteF ?_
        refine ⟨_, rfl, _, rfl, _, rfl, D, _, 0, nV j, rfl, rfl, SqL.of e2, atI_nat (j := 0) rfl, S ls, _, ls.getD j 0, rfl, rfl, by rw [lz]; exact nfits (by omega), atI_nat hlc, _, _, rfl, rfl, ?_, gv (v := .str (S ((is ++ [j]).map fun i => ls.getD i 0))) ?_ ?_⟩
        · show (S (is.map fun i => ls.getD i 0)).length + (S [ls.getD j 0]).length ≤ _
          rw [S_len, S_len, List.length_map, hil]
          exact nfits (by simp; omega)
        · rw [List.map_append]
          exact congrArg V.str (S_app _ _)
        refine ⟨_, rfl, _, rfl, _, rfl, D, _, 0, nV j, rfl, rfl, SqL.of e2, atI_nat (j := 0) rfl, row, _, _, .str (sb y), rfl, rfl, SqL.of er, atI_nat hy1, _, rfl, fits hyl, _, rfl, sb r, rfl, fits hrl, gv (v := .str (sb (r.drop y.length))) (congrArg V.str (by rw [sb_len, cut_sbD])) ?_⟩
        exact ⟨x3, is ++ [j], r.drop y.length, _, _, _, hst, by rw [List.length_drop]; omega, by rw [List.length_append, hil]; rfl, rfl⟩
    · intro σ Ha hp
      obtain ⟨xa, is, r, t5, t6, t7, hr0, hrl, hil, rfl⟩ := hp
      rw [hn2] at hr0
      refine ⟨_, rfl, rfl, _, rfl, ite2 (fun h => ⟨_, rfl, q Ha _ xa ⟨fun js e9 => ?_, fun hno => ?_⟩⟩) (fun h => q Ha _ xa ⟨fun js e9 => ?_, fun _ => rfl⟩)⟩
      · rw [hr0] at e9
        injection e9 with e9
        injection e9 with e9
        rw [e9]
      · have h := of_decide_eq_true h
        rw [sb_nil] at h
        injection h with h
        have h := sb_inj h
        rw [h] at hr0
        exact absurd hr0 (hno is)
      · rw [hr0] at e9
        injection e9 with e9
        injection e9 with _ e9
        exact absurd (decide_eq_true (by rw [e9, sb_nil])) h
theorem e_a : (Str.ofString "a" : Str) = S [97] := by decide +kernel
theorem e_alf : (Str.ofString "a\n" : Str) = S [97, 10] := by decide +kernel
theorem e_ab : (Str.ofString "ab" : Str) = S [97, 98] := by decide +kernel
theorem e_no : (Str.ofString "" : Str) = S [] := by decide +kernel
theorem e_x : (Str.ofString "x" : Str) = S [120] := by decide +kernel
theorem not_lf {l : List Nat} (h : 10 ∈ l) : ¬ ∀ c ∈ l, okSg c = true := fun g => by
  have := g 10 h
  cases this
theorem x_bits (bs : Wd) (l : List Nat) : sb bs ++ Str.ofString "x" ≠ sb (l.map fun c => c == 49) := fun h => by
  rw [e_x] at h
  have h : S (bs.map bc ++ [120]) = S ((l.map fun c => c == 49).map bc) := by
    rw [← S_app]
    exact h
  have h := S_inj h
  have hm : 120 ∈ (l.map fun c => c == 49).map bc := by rw [← h]; simp
  obtain ⟨b, _, hb⟩ := List.mem_map.mp hm
  cases b <;> cases hb
/-- of the letters, lengths that were coded -/
theorem dec_at {H : Hp} {l : List Nat} {p : Addr} {n : Int} {z : Str} {Q : VK} {E : XK} (g : goodT l) (l0 : l ≠ []) (ep : H p = some (.lst ((lens (cnts l)).map nV))) (hz : z.length ≤ 10000)
    (hb : ((∀ bs, z ≠ sb bs) ∨ ¬ (1 ≤ n ∧ n ≤ 512)) → ∀ H', Xt (tK K) H H' → E (.ref (He.ga K "BadBits")) none H')
    (hg : ∀ (bs : Wd) (k : Nat), z = sb bs → n = k → 1 ≤ k → k ≤ 512 → ∀ H' y, Xt (tK K) H H' → ResZ (ltr l) (wtx l) k bs y → ((∃ is, rdK (wtx l) k bs = some (is, [])) → Q (.str y) H') ∧ ((∀ is, rdK (wtx l) k bs ≠ some (is, [])) → E (.ref (He.ga K "BadBits")) none H')) : spDecoded K [.str (S (ltr l)), .ref p, .int n, .str z] H Q E := by
  have gC := cnts_good l0 g.2
  have L := lens_ok gC.1 gC.2.1
  have F := L.fill gC.1 gC.2.1
  have hln : (lens (cnts l)).length = (ltr l).length := by rw [L.len]; exact List.length_map ..
  have ll := ltr_len l
  refine ⟨ltr l, p, toZ (lens (cnts l)), n, z, rfl, toZ_nV ep, by omega, fun c hc => (ltr_mem.mp hc).1, by rw [List.length_map]; omega, hz, fun h => absurd (goodL_ltr g.2) h, fun _ => ⟨fun h => ?_, fun fs e _ F' => ⟨hb, fun bs k ez en h1 h2 => ?_⟩⟩⟩
  · rcases h with h | h
    · exact absurd (by rw [List.length_map, hln]) h
    · exact absurd F (h _ rfl)
  · have e := toZ_inj e
    rw [← e]
    refine ⟨fun is hr H' x => ?_, fun hr H' x => ?_⟩
    · exact (hg bs k ez en h1 h2 H' _ x ⟨fun js hj => by
        have := hr.symm.trans hj
        injection this with this
        injection this with this
        rw [this], fun hn => absurd hr (hn is)⟩).1 ⟨is, hr⟩
    · exact (hg bs k ez en h1 h2 H' "BadBits" x ⟨fun js hj => absurd hj (hr js), fun _ => rfl⟩).2 hr
def spRefusedC (K : PySem.W.Frag) : Sp := fun vs H Q E => ∃ (l : List Nat) (p : Addr), vs = [.str (S (ltr l)), .ref p, nV l.length, .str (sb (encB l))] ∧ goodT l ∧ l ≠ [] ∧ l.length ≤ 90 ∧ H p = some (.lst ((lens (cnts l)).map nV)) ∧ Tabs (tK K) H ∧ ∀ H', Xt (tK K) H H' → Q (.bl true) H'
theorem ok__law_refused_right (T : Tx K mg) (TB__law_refused_right : TabB base mg (He.cT K ("_law_refused_right", none)).1 (He.cT K ("_law_refused_right", none)).2) : OkN P w K mg base ("_law_refused_right", none) 12 ["_law_letters", "_law_some", "_law_many", "_law_bits_here"] (spRefusedC K) := by
  refine okC T.F__law_refused_right sc__law_refused_right (fun vs H Q E h => ?_) (fun A outer s H vs Q E hr h => ?_)
  · obtain ⟨l, p, rfl, _⟩ := h
    rfl
  · obtain ⟨l, p, rfl, g, l0, hl, ep, hT, q⟩ := h
    refine ⟨_, (pss_cons (ps_set (i := 4) sc__law_refused_right.nd rfl (.inl rfl) (pe_lst (pa_cons (pe_told T TB__law_refused_right rfl rfl rfl hr (by rfl) (by rfl) (by exact T.tk__law_refused_right) (by exact T.tu__law_refused_right) (lamS_by (by rfl)) (by rfl) (by intros; rfl) (fun A outer s H E f c' hr2 hx2 => (pe_callS (ok_decoded T) (hr2.mono (by decide)) (by rfl) T.g_decoded T.F_decoded.kp T.B_decoded hx2 (pa_cons (pe_op op_add_str (pv 0) (pe_ix ix_str (pv 0) pe_int (fun _ _ => rfl))) (pa_cons (pv 1) (pa_cons (pv 2) (pa_cons pe_str pa_nil))))))) pa_nil)))
    (pss_cons (ps_set (i := 4) sc__law_refused_right.nd rfl (.inl rfl) (pe_op op_cat (pv 4) (pe_lst (pa_cons (pe_told T TB__law_refused_right rfl rfl rfl hr (by rfl) (by rfl) (by exact T.tk__law_refused_right) (by exact T.tu__law_refused_right) (lamS_by (by rfl)) (by rfl) (by intros; rfl) (fun A outer s H E f c' hr2 hx2 => (pe_callS (ok_decoded T) (hr2.mono (by decide)) (by rfl) T.g_decoded T.F_decoded.kp T.B_decoded hx2 (pa_cons (pv 0) (pa_cons (pe_op op_cat (pv 1) (pe_lst (pa_cons pe_int pa_nil))) (pa_cons (pv 2) (pa_cons pe_str pa_nil))))))) pa_nil))))
    (pss_cons (ps_set (i := 4) sc__law_refused_right.nd rfl (.inl rfl) (pe_op op_cat (pv 4) (pe_lst (pa_cons (pe_told T TB__law_refused_right rfl rfl rfl hr (by rfl) (by rfl) (by exact T.tk__law_refused_right) (by exact T.tu__law_refused_right) (lamS_by (by rfl)) (by rfl) (by intros; rfl) (fun A outer s H E f c' hr2 hx2 => (pe_callS (ok_decoded T) (hr2.mono (by decide)) (by rfl) T.g_decoded T.F_decoded.kp T.B_decoded hx2 (pa_cons pe_str (pa_cons (pe_lst (pa_cons pe_int (pa_cons pe_int pa_nil))) (pa_cons (pv 2) (pa_cons pe_str pa_nil))))))) pa_nil))))
    (pss_cons (ps_set (i := 4) sc__law_refused_right.nd rfl (.inl rfl) (pe_op op_cat (pv 4) (pe_lst (pa_cons (pe_told T TB__law_refused_right rfl rfl rfl hr (by rfl) (by rfl) (by exact T.tk__law_refused_right) (by exact T.tu__law_refused_right) (lamS_by (by rfl)) (by rfl) (by intros; rfl) (fun A outer s H E f c' hr2 hx2 => (pe_callS (ok_decoded T) (hr2.mono (by decide)) (by rfl) T.g_decoded T.F_decoded.kp T.B_decoded hx2 (pa_cons (pv 0) (pa_cons (pv 1) (pa_cons (pv 2) (pa_cons (pe_op op_add_str (pv 3) pe_str) pa_nil))))))) pa_nil))))
    (pss_cons (ps_if (pt_cmpR (op_neDK (K := K) rfl hr.units) (pv 4) (pe_lst (pa_cons pe_str (pa_cons pe_str (pa_cons pe_str (pa_cons pe_str pa_nil))))) (nomark _))
    (pss_one (ps_ret pe_bl)) pss_nil)
    (pss_cons (ps_set (i := 5) sc__law_refused_right.nd rfl (.inl rfl) (pe_lst (pa_cons (pe_told T TB__law_refused_right rfl rfl rfl hr (by rfl) (by rfl) (by exact T.tk__law_refused_right) (by exact T.tu__law_refused_right) (lamS_by (by rfl)) (by rfl) (by intros; rfl) (fun A outer s H E f c' hr2 hx2 => (pe_callS (ok_coded T) (hr2.mono (by decide)) (by rfl) T.g_coded T.F_coded.kp T.B_coded hx2 (pa_cons pe_str pa_nil)))) pa_nil)))
    (pss_cons (ps_expr (pe_bmK (K := K) rfl F.plainAttrs_list F.slot_list_append F.type_list_append mt_append (pv 5) (pa_cons (pe_told T TB__law_refused_right rfl rfl rfl hr (by rfl) (by rfl) (by exact T.tk__law_refused_right) (by exact T.tu__law_refused_right) (lamS_by (by rfl)) (by rfl) (by intros; rfl) (fun A outer s H E f c' hr2 hx2 => (pe_callS (ok_coded T) (hr2.mono (by decide)) (by rfl) T.g_coded T.F_coded.kp T.B_coded hx2 (pa_cons pe_str pa_nil)))) pa_nil) (by rfl) (by rfl) (by rfl) (by rfl) (by rfl)))
    (pss_cons (ps_set (i := 5) sc__law_refused_right.nd rfl (.inl rfl) (pe_op op_cat (pv 5) (pe_lst (pa_cons (pe_told T TB__law_refused_right rfl rfl rfl hr (by rfl) (by rfl) (by exact T.tk__law_refused_right) (by exact T.tu__law_refused_right) (lamS_by (by rfl)) (by rfl) (by intros; rfl) (fun A outer s H E f c' hr2 hx2 => (pe_callS (ok_coded T) (hr2.mono (by decide)) (by rfl) T.g_coded T.F_coded.kp T.B_coded hx2 (pa_cons (pe_op op_repS pe_str pe_int) pa_nil)))) pa_nil))))
    (pss_cons (ps_if (pt_cmpR (op_neDK (K := K) rfl hr.units) (pe_op op_cat (pv 5) (pe_lst (pa_cons (pe_told T TB__law_refused_right rfl rfl rfl hr (by rfl) (by rfl) (by exact T.tk__law_refused_right) (by exact T.tu__law_refused_right) (lamS_by (by rfl)) (by rfl) (by intros; rfl) (fun A outer s H E f c' hr2 hx2 => (pe_callS (ok_decoded T) (hr2.mono (by decide)) (by rfl) T.g_decoded T.F_decoded.kp T.B_decoded hx2 (pa_cons pe_str (pa_cons (pe_lst (pa_cons pe_int (pa_cons pe_int pa_nil))) (pa_cons pe_int (pa_cons pe_str pa_nil))))))) pa_nil))) (pe_op op_rep (pe_lst (pa_cons pe_str pa_nil)) pe_int) (nomark _))
    (pss_one (ps_ret pe_bl)) pss_nil)
    (pss_one (ps_ret pe_bl))))))))))), ?_⟩
    have gC := cnts_good l0 g.2
    have L := lens_ok gC.1 gC.2.1
    have hln : (lens (cnts l)).length = (ltr l).length := by rw [L.len]; exact List.length_map ..
    have ll := ltr_len l
    have ll94 := ltr94 g.2
    have lp := ltr_pos l0 g.lt
    have lz : (S (ltr l)).length = (ltr l).length := S_len _
    have lx : (Str.ofString "x" : Str).length ≤ 10000 := by decide +kernel
    have le1 := enc_le l0 g.2
    obtain ⟨c0, hc0⟩ : ∃ c0, (ltr l)[0]? = some c0 := ⟨_, List.getElem?_eq_getElem lp⟩
    have hc0m := List.mem_of_getElem? hc0
    -- a letter twice
    refine ⟨hT, fun G xn tg => ?_⟩
    have epg := (Xt.ex (T := tK K) xn tg).lst ep
    refine ⟨_, rfl, _, rfl, S (ltr l), _, c0, rfl, rfl, by rw [lz]; exact nfits (by omega), atI_nat (j := 0) hc0, _, _, rfl, rfl, ?_, _, rfl, _, rfl, ltr l ++ [c0], p, toZ (lens (cnts l)), ((l.length : Nat) : Int), Str.ofString "x", ?_, toZ_nV epg, by rw [List.length_append]; simp; omega, fun c hc => ?_, by rw [List.length_map]; omega, lx, fun _ G2 xg => ⟨"BadText", by decide +kernel, rfl, rfl, fun G3 xh => ?_⟩, fun gl => ?_⟩
    · show (S (ltr l)).length + (S [c0]).length ≤ _
      rw [S_len, S_len]
      exact nfits (by simp; omega)
    · rw [← S_app]
      rfl
    · rcases List.mem_append.mp hc with hc | hc
      · exact (ltr_mem.mp hc).1
      · rw [List.mem_singleton.mp hc]
        exact (ltr_mem.mp hc0m).1
    rotate_left
    · exfalso
      have h1 := ltr_lt (ltr l ++ [c0])
      rw [← gl.2] at h1
      have := (List.pairwise_append.mp h1).2.2 c0 hc0m c0 (by simp)
      omega
    have xg := (Xt.ex (T := tK K) xn tg).trans (xg.trans xh)
    refine ⟨by exact (by decide : 1 ≤ sizeLine), fun a0 na => ?_⟩
    generalize hH : upd G3 a0 _ = G4
    have s := BL.new xg na hH
    clear hH na xn tg xg xh epg
    -- another count of lengths
    refine ⟨_, rfl, s.x.tb hT, fun G xn tg => ?_⟩
    have epg := (s.x.trans (.ex xn tg)).lst ep
    refine ⟨_, rfl, _, rfl, by exact (by decide : 1 ≤ sizeLine), fun u1 m1 => ?_⟩
    generalize hH : upd G u1 _ = G2
    have y2 := newE (lo := True) (T := tK K) hH m1
    have e2 := atE hH
    have epg := y2.lst epg
    clear hH m1
    refine ⟨_, _, _, _, rfl, rfl, epg, e2, by rw [List.length_map]; exact nfits (by simp; omega), fun u2 m2 => ?_⟩
    generalize hH : upd G2 u2 _ = G3
    have y3 := newE (lo := True) (T := tK K) hH m2
    have e3 : G3 u2 = some (.lst ((lens (cnts l) ++ [1]).map nV)) := by rw [atE hH, List.map_append]; rfl
    clear hH m2 e2
    refine ⟨_, rfl, ltr l, u2, toZ (lens (cnts l) ++ [1]), _, _, rfl, toZ_nV e3, by omega, fun c hc => (ltr_mem.mp hc).1, by rw [List.length_map, List.length_append]; simp; omega, lx, fun h => absurd (goodL_ltr g.2) h, fun _ => ⟨fun _ G4 xg => ⟨"BadCode", by decide +kernel, rfl, rfl, fun G5 xh => ?_⟩, fun fs e hf _ => ?_⟩⟩
    rotate_left
    · exfalso
      have e := congrArg List.length e
      rw [List.length_map, List.length_map, List.length_append] at e
      simp at e
      omega
    have s := s.xt ((Xt.ex (T := tK K) xn tg).trans (y2.trans (y3.trans (xg.trans xh))))
    refine ⟨by exact (by decide : 1 ≤ sizeLine), fun a1 n1 => ?_⟩
    generalize hH : upd _ a1 _ = HX1
    have y4 := newE (lo := True) (T := tK K) hH n1
    have e4 := atE hH
    have s := s.xt y4
    clear hH n1
    refine ⟨_, _, _, _, rfl, rfl, s.e, e4, by exact (by decide : 2 ≤ sizeLine), fun bx n2 => ?_⟩
    generalize hH : upd _ bx _ = HY1
    have s := s.cat n2 hH
    clear hH n2 y4 e4
    clear xn tg xg xh epg y2 y3 e3
    -- lengths that do not fill
    refine ⟨_, rfl, s.x.tb hT, fun G xn tg => ⟨by exact (by decide : 2 ≤ sizeLine), fun u1 m1 => ?_⟩⟩
    generalize hH : upd G u1 _ = G2
    have y2 := newE (lo := True) (T := tK K) hH m1
    have e2 : G2 u1 = some (.lst ([1, 2].map nV)) := atE hH
    clear hH m1
    have gl : GoodL [97, 98] := ⟨by decide, by decide +kernel⟩
    refine ⟨_, rfl, [97, 98], u1, toZ [1, 2], _, _, by rw [e_ab], toZ_nV e2, by decide, by decide, by decide, lx, fun h => absurd gl h, fun _ => ⟨fun _ G4 xg => ⟨"BadCode", by decide +kernel, rfl, rfl, fun G5 xh => ?_⟩, fun fs e hf F' => ?_⟩⟩
    rotate_left
    · rw [← toZ_inj (fs := [1, 2]) e] at F'
      exact absurd F'.full (by decide)
    have s := s.xt ((Xt.ex (T := tK K) xn tg).trans (y2.trans (xg.trans xh)))
    refine ⟨by exact (by decide : 1 ≤ sizeLine), fun a1 n1 => ?_⟩
    generalize hH : upd _ a1 _ = HX2
    have y4 := newE (lo := True) (T := tK K) hH n1
    have e4 := atE hH
    have s := s.xt y4
    clear hH n1
    refine ⟨_, _, _, _, rfl, rfl, s.e, e4, by exact (by decide : 3 ≤ sizeLine), fun bx n2 => ?_⟩
    generalize hH : upd _ bx _ = HY2
    have s := s.cat n2 hH
    clear hH n2 y4 e4
    clear xn tg xg xh y2 e2
    -- a sign that is no bit
    refine ⟨_, rfl, s.x.tb hT, fun G xn tg => ?_⟩
    have epg := (s.x.trans (.ex xn tg)).lst ep
    have lbx : (sb (encB l) ++ Str.ofString "x").length ≤ 10000 := by
      rw [e_x, len_app, sb_len, S_len]
      simp
      omega
    refine ⟨_, rfl, _, rfl, _, rfl, _, rfl, _, _, rfl, rfl, ?_, ?_⟩
    · show (sb (encB l)).length + (Str.ofString "x").length ≤ _
      rw [e_x, sb_len, S_len]
      exact nfits (by simp; omega)
    dsimp only [tNil]
    refine dec_at (K := K) (n := ((l.length : Nat) : Int)) g l0 epg lbx (fun _ G2 xg => ⟨"BadBits", by decide +kernel, rfl, rfl, fun G3 xh => ?_⟩) fun bs k ez _ _ _ _ _ _ _ => ?_
    rotate_left
    · exfalso
      have h2 : bs = (bs.map bc).map fun c => c == 49 := by
        rw [List.map_map]
        conv => lhs; rw [← List.map_id bs]
        exact List.map_congr_left fun b _ => by cases b <;> rfl
      rw [h2] at ez
      exact x_bits _ _ ez
    have s := s.xt ((Xt.ex (T := tK K) xn tg).trans (xg.trans xh))
    refine ⟨by exact (by decide : 1 ≤ sizeLine), fun a1 n1 => ?_⟩
    generalize hH : upd _ a1 _ = HX3
    have y4 := newE (lo := True) (T := tK K) hH n1
    have e4 := atE hH
    have s := s.xt y4
    clear hH n1
    refine ⟨_, _, _, _, rfl, rfl, s.e, e4, by exact (by decide : 4 ≤ sizeLine), fun bx n2 => ?_⟩
    generalize hH : upd _ bx _ = HY3
    have s := s.cat n2 hH
    clear hH n2 y4 e4
    clear xn tg xg xh epg
    refine ⟨_, rfl, by exact (by decide : 4 ≤ sizeLine), fun p2 n2 => ?_⟩
    generalize hH : upd _ p2 _ = H25
    have xd := newE (lo := True) (T := tK K) hH n2
    have ed : H25 p2 = some (.lst ((["BadText", "BadCode", "BadCode", "BadBits"] : List Str).map V.str)) := atE hH
    clear hH n2
    have s := s.xt xd
    refine neD_same (dp_strs (SqL.of s.e)) (dp_strs (SqL.of ed)) (sh_strs (by decide +kernel)) ⟨_, rfl, iteF ?_⟩
    have x0 := s.x
    clear s xd ed
    -- what is no text
    refine ⟨x0.tb hT, fun G xn tg => ⟨[], by rw [e_no], by decide, fun _ h => absurd rfl h, fun _ G2 xg => ⟨"BadText", by decide +kernel, rfl, rfl, fun G3 xh => ?_⟩⟩⟩
    have xg := x0.trans ((Xt.ex (T := tK K) xn tg).trans (xg.trans xh))
    refine ⟨by exact (by decide : 1 ≤ sizeLine), fun a1 na => ?_⟩
    generalize hH : upd G3 a1 _ = G4
    have s := BN.new xg na hH
    clear hH na xn tg xg xh x0
    refine ⟨_, rfl, .inl ⟨rfl, _, SqL.of s.e⟩, s.x.tb hT, fun G xn tg => ⟨[97, 10], by rw [e_alf], by decide, fun g _ => absurd g.2 (not_lf (by simp)), fun _ G2 xg => ⟨"BadText", by decide +kernel, rfl, rfl, fun G3 xh => ?_⟩⟩⟩
    have s := s.xt ((Xt.ex (T := tK K) xn tg).trans (xg.trans xh))
    refine ⟨_, _, _, rfl, rfl, s.e, rep_lt (by decide), ?_⟩
    generalize hH : upd _ _ _ = HY1
    have s := s.app hH
    clear hH
    clear xn tg xg xh
    have em2 : Txt.mul (Str.ofString "a") (513 : Int) = S (List.replicate 513 97) := by
      rw [e_a]
      exact mul_S 97 513
    refine ⟨_, rfl, s.x.tb hT, fun G xn tg => ⟨_, _, rfl, rfl, by rw [e_a]; exact mulOk_S (by decide) (by decide), List.replicate 513 97, by rw [em2], by simp, fun g _ => absurd g.1 (by simp), fun _ G2 xg => ⟨"BadText", by decide +kernel, rfl, rfl, fun G3 xh => ?_⟩⟩⟩
    have s := s.xt ((Xt.ex (T := tK K) xn tg).trans (xg.trans xh))
    refine ⟨by exact (by decide : 1 ≤ sizeLine), fun a1 n1 => ?_⟩
    generalize hH : upd _ a1 _ = HX2
    have y4 := newE (lo := True) (T := tK K) hH n1
    have e4 := atE hH
    have s := s.xt y4
    clear hH n1
    refine ⟨_, _, _, _, rfl, rfl, s.e, e4, by exact (by decide : 3 ≤ sizeLine), fun bx n2 => ?_⟩
    generalize hH : upd _ bx _ = HY2
    have s := s.cat n2 hH
    clear hH n2 y4 e4
    clear xn tg xg xh
    refine ⟨_, rfl, s.x.tb hT, fun G xn tg => ⟨by exact (by decide : 2 ≤ sizeLine), fun u1 m1 => ?_⟩⟩
    generalize hH : upd G u1 _ = G2
    have y2 := newE (lo := True) (T := tK K) hH m1
    have e2 : G2 u1 = some (.lst ([1, 1].map nV)) := atE hH
    clear hH m1
    have nl : ¬ GoodL [97, 10] := fun h => not_lf (l := [97, 10]) (by simp) h.1
    refine ⟨[97, 10], u1, toZ [1, 1], _, _, by rw [e_alf], toZ_nV e2, by decide, by decide, by decide, by decide +kernel, fun _ G4 xg => ⟨"BadText", by decide +kernel, rfl, rfl, fun G5 xh => ?_⟩, fun h => absurd h nl⟩
    have s := s.xt ((Xt.ex (T := tK K) xn tg).trans (y2.trans (xg.trans xh)))
    refine ⟨by exact (by decide : 1 ≤ sizeLine), fun a1 n1 => ?_⟩
    generalize hH : upd _ a1 _ = HX3
    have y4 := newE (lo := True) (T := tK K) hH n1
    have e4 := atE hH
    have s := s.xt y4
    clear hH n1
    refine ⟨_, _, _, _, rfl, rfl, s.e, e4, by exact (by decide : 4 ≤ sizeLine), fun bx n2 => ?_⟩
    generalize hH : upd _ bx _ = HY3
    have s := s.cat n2 hH
    clear hH n2 y4 e4
    clear xn tg xg xh y2 e2
    refine ⟨by exact (by decide : 1 ≤ sizeLine), fun p2 n2 => ?_⟩
    generalize hH : upd _ p2 _ = H35
    have xd := newE (lo := True) (T := tK K) hH n2
    have ed := atE hH
    clear hH n2
    refine ⟨p2, 4, _, rfl, rfl, ed, by decide, by decide, by exact (by decide : 1 * 4 ≤ sizeLine), fun p3 n3 => ?_⟩
    generalize hH : upd H35 p3 _ = H36
    have xe := newE (lo := True) (T := tK K) hH n3
    have ee : H36 p3 = some (.lst (List.replicate 4 (.str "BadText"))) := by rw [atE hH]; exact congrArg (fun z => some (HO.lst z)) (rep_flatV 4 _)
    clear hH n3
    have s := s.xt (xd.trans xe)
    exact neD_same (dp_rep s.e) (dp_rep ee) (sh_rep (by decide +kernel)) ⟨_, rfl, iteF (q _ s.x)⟩
end
end Tw

set_option maxHeartbeats 4000000
namespace Tw
open PySem PySem.Spec PyProof.Rows L2 LamX
section
variable {P : Program} {w : World} {K : PySem.W.Frag} {mg : Str → Option Value} {base : Heap}
def spLaw (K : PySem.W.Frag) : Sp := fun vs H Q _ => ∃ (a : Addr) (ns : List Int), vs = [.ref a] ∧ SqL K H a (ns.map .int) ∧ ns.length ≤ 63 ∧ Tabs (tK K) H ∧ ∀ H', Q (.bl true) H'
theorem spLaw_of {H : Hp} {a : Addr} {ns : List Int} (hS : SqL K H a (ns.map V.int)) (hl : ns.length ≤ 63) (_ : ∀ z ∈ ns, Builtin.Int.intBits z ≤ 1048576) (hT : Tabs (tK K) H) : spLaw K [.ref a] H (fun v _ => v = .bl true) fun _ _ _ => False := ⟨a, ns, rfl, hS, hl, hT, fun _ => rfl⟩
theorem e_e : (Str.ofString "e" : Str) = S [101] := by decide +kernel
theorem e_one : (Str.ofString "1" : Str) = sb [true] := by decide +kernel
theorem ok_law (T : Tx K mg) (TB__law_refused_right : TabB base mg (He.cT K ("_law_refused_right", none)).1 (He.cT K ("_law_refused_right", none)).2) (TB_law : TabB base mg (He.cT K ("law", none)).1 (He.cT K ("law", none)).2) : OkN P w K mg base ("law", none) 20 ["_law_script"] (spLaw K) := by
  refine okC T.F_law sc_law (fun vs H Q E h => ?_) (fun A outer s H0 vs Q E hr h => ?_)
  · obtain ⟨a, ns, rfl, _⟩ := h
    rfl
  · obtain ⟨a, ns, rfl, ha, hl, hT, q⟩ := h
    refine ⟨_, (pss_cons (ps_for (passes_of rfl) rfl (pi_range1 (by rfl) T.z_range (pa_cons (pe_callB (call_max2 rfl) (by rfl) T.z_max b_max (pa_cons pe_int (pa_cons (pe_callB (call_min2 rfl) (by rfl) T.z_min b_min (pa_cons pe_int (pa_cons (pe_callB (call_len_seqK (K := K) rfl) (by rfl) T.z_len b_len (pa_cons (pv 0) pa_nil)) pa_nil))) pa_nil))) pa_nil)) (pg_name (i := 1) sc_law.nd rfl (.inl rfl))
    (pss_cons (ps_set (i := 2) sc_law.nd rfl (.inl rfl) (pe_callS (ok__law_drawn T) (hr.mono (by decide)) (by rfl) T.g__law_drawn T.F__law_drawn.kp T.B__law_drawn psE (pa_cons (pe_callS (ok__law_cell T) (hr.mono (by decide)) (by rfl) T.g__law_cell T.F__law_cell.kp T.B__law_cell psE (pa_cons (pv 0) (pa_cons (pv 1) pa_nil))) (pa_cons (pv 1) pa_nil))))
    (pss_cons (ps_set (i := 3) sc_law.nd rfl (.inr rfl) (pe_op op_add_str (pe_callS (ok__law_text T) (hr.mono (by decide)) (by rfl) T.g__law_text T.F__law_text.kp T.B__law_text psE (pa_cons (pv 2) (pa_cons pe_int pa_nil))) pe_str))
    (pss_cons (ps_set (i := 4) sc_law.nd rfl (.inl rfl) (pe_told T TB_law rfl rfl rfl hr (by rfl) (by rfl) (by exact T.tk_law) (by exact T.tu_law) (lamS_by (by rfl)) (by rfl) (by intros; rfl) (fun A outer s H E f c' hr2 hx2 => (pe_callS (ok_coded T) (hr2.mono (by decide)) (by rfl) T.g_coded T.F_coded.kp T.B_coded hx2 (pa_cons (pv 3) pa_nil)))))
    (pss_cons (ps_if (PW.pt (pw_or (pt_not (pt_val (pe_callB (call_isiK (K := K) rfl) (by rfl) T.z_isinstance b_isinstance (pa_cons (pv 4) (pa_cons (pe_bltn (v := .ty _) (by rfl) T.z_tuple b_tuple rfl) pa_nil))))) (pw_or1 (pt_cmpR op_ne (pe_callB (call_len_seqK (K := K) rfl) (by rfl) T.z_len b_len (pa_cons (pv 4) pa_nil)) pe_int (nomark _)))))
    (pss_one (ps_ret pe_bl)) pss_nil)
    (pss_cons (ps_asg (pv 4) (pg_tupK (K := K) (n := 4) rfl rfl (pgs_cons (pg_name (i := 5) sc_law.nd rfl (.inr rfl)) (pgs_cons (pg_name (i := 6) sc_law.nd rfl (.inr rfl)) (pgs_cons (pg_name (i := 7) sc_law.nd rfl (.inr rfl)) (pgs_cons (pg_name (i := 8) sc_law.nd rfl (.inr rfl)) pgs_nil)))) (by rfl) (by rfl)))
    (pss_cons (ps_setLc (i := 9) (own := [("_law_sign", 10)]) rfl sc_law.nd rfl rfl (sw_true rfl rfl rfl (by decide +kernel)) (pi_str (pv 5)) (blkOk_by (N := N_law) (sc := defScope s_law) (by decide +kernel)) (fun _ _ _ _ _ => (pg_name (i := 10) sc_law.nd rfl (.inl rfl))) (fun _ _ _ _ _ => pts_nil) (fun _ _ _ _ _ => (pe_m1 F.slot_str_count F.type_str_count mt_count (pv 3) (pv 10))))
    (pss_cons (ps_if (PW.pt (pw_or (pt_cmpR op_ne (pv 5) (pe_joinK (K := K) rfl pe_str (pe_sortSet rfl (by rfl) T.z_sorted (by rfl) T.z_set (pv 3)) (by rfl) (by rfl) (by rfl)) (nomark _)) (pw_or (pt_cmpR op_ne (pv 7) (pe_callB call_len_str (by rfl) T.z_len b_len (pa_cons (pv 3) pa_nil)) (nomark _)) (pw_or1 (pt_cmpR op_ne (pe_callB call_len_str (by rfl) T.z_len b_len (pa_cons (pv 8) pa_nil)) (pe_callS (ok__law_least T) (hr.mono (by decide)) (by rfl) T.g__law_least T.F__law_least.kp T.B__law_least psE (pa_cons (pv 9) pa_nil)) (nomark _))))))
    (pss_one (ps_ret pe_bl)) pss_nil)
    (pss_cons (ps_set (i := 11) sc_law.nd rfl (.inr rfl) (pe_callS (ok_words T) (hr.mono (by decide)) (by rfl) T.g_words T.F_words.kp T.B_words psE (pa_cons (pv 6) pa_nil)))
    (pss_cons (ps_if (pt_cmpR op_ne (pv 8) (pe_joinK (K := K) rfl pe_str (pe_lc (own := [("_law_sign", 10)]) rfl sc_law.nd (pi_str (pv 3)) (blkOk_by (N := N_law) (sc := defScope s_law) (by decide +kernel)) (fun _ _ _ _ _ => (pg_name (i := 10) sc_law.nd rfl (.inl rfl))) (fun _ _ _ _ _ => pts_nil) (fun _ _ _ _ _ => (pe_ix (ix_listK (K := K) rfl) (pv 11) (pe_m1 F.slot_str_index F.type_str_index mt_sindex (pv 5) (pv 10)) (fun _ _ => rfl)))) (by rfl) (by rfl) (by rfl)) (nomark _))
    (pss_one (ps_ret pe_bl)) pss_nil)
    (pss_cons (ps_if (pt_cmpR (op_neDK (K := K) rfl hr.units) (pe_told T TB_law rfl rfl rfl hr (by rfl) (by rfl) (by exact T.tk_law) (by exact T.tu_law) (lamS_by (by rfl)) (by rfl) (by intros; rfl) (fun A outer s H E f c' hr2 hx2 => (pe_callS (ok_decoded T) (hr2.mono (by decide)) (by rfl) T.g_decoded T.F_decoded.kp T.B_decoded hx2 (pa_cons (pv 5) (pa_cons (pv 6) (pa_cons (pv 7) (pa_cons (pv 8) pa_nil))))))) (pv 3) (nomark _))
    (pss_one (ps_ret pe_bl)) pss_nil)
    (pss_cons (ps_set (i := 12) sc_law.nd rfl (.inl rfl) (pe_callS (ok__law_bits T) (hr.mono (by decide)) (by rfl) T.g__law_bits T.F__law_bits.kp T.B__law_bits psE (pa_cons (pe_op op_mod (pe_op op_fdivW (pv 2) (pe_op op_pow pe_int pe_int)) (pe_op op_pow pe_int pe_int)) (pa_cons (pe_op op_mod (pe_op op_fdivW (pv 2) (pe_op op_pow pe_int pe_int)) pe_int) pa_nil))))
    (pss_cons (ps_set (i := 13) sc_law.nd rfl (.inl rfl) (pe_lst (pa_cons (pe_tup (pa_cons (pe_op op_add_str (pv 8) pe_str) (pa_cons (pv 7) pa_nil))) (pa_cons (pe_tup (pa_cons (pe_slice sl_str (pv 8) (po_some pe_int) po_none) (pa_cons (pv 7) pa_nil))) (pa_cons (pe_tup (pa_cons (pv 8) (pa_cons (pe_op op_add (pv 7) pe_int) pa_nil))) pa_nil)))))
    (pss_cons (ps_set (i := 13) sc_law.nd rfl (.inl rfl) (pe_op op_cat (pv 13) (pe_lst (pa_cons (pe_tup (pa_cons (pv 12) (pa_cons (pe_op op_add (pe_op op_mod (pe_op op_fdiv (pv 2) pe_int) pe_int) pe_int) pa_nil))) pa_nil))))
    (pss_cons (ps_for (passes_of rfl) rfl (pi_listK (K := K) rfl (pe_op op_cat (pv 13) (pe_lst (pa_cons (pe_tup (pa_cons (pe_op op_add_str (pv 8) (pv 12)) (pa_cons (pe_op op_add (pv 7) pe_int) pa_nil))) pa_nil)))) (pg_tupK (K := K) (n := 2) rfl rfl (pgs_cons (pg_name (i := 14) sc_law.nd rfl (.inr rfl)) (pgs_cons (pg_name (i := 15) sc_law.nd rfl (.inr rfl)) pgs_nil)) (by rfl) (by rfl))
    (pss_one (ps_if (pt_cmpR (op_neDK (K := K) rfl hr.units) (pe_told T TB_law rfl rfl rfl hr (by rfl) (by rfl) (by exact T.tk_law) (by exact T.tu_law) (lamS_by (by rfl)) (by rfl) (by intros; rfl) (fun A outer s H E f c' hr2 hx2 => (pe_callS (ok_decoded T) (hr2.mono (by decide)) (by rfl) T.g_decoded T.F_decoded.kp T.B_decoded hx2 (pa_cons (pv 5) (pa_cons (pv 6) (pa_cons (pv 15) (pa_cons (pv 14) pa_nil))))))) (pe_callS (ok__law_read T) (hr.mono (by decide)) (by rfl) T.g__law_read T.F__law_read.kp T.B__law_read psE (pa_cons (pv 5) (pa_cons (pv 11) (pa_cons (pv 15) (pa_cons (pv 14) pa_nil))))) (nomark _))
    (pss_one (ps_ret pe_bl)) pss_nil)))
    (pss_cons (ps_if (pt_cmpR (op_neDK (K := K) rfl hr.units) (pe_lc (own := [("_law_count", 15)]) rfl sc_law.nd (pi_listK (K := K) rfl (pe_lst (pa_cons pe_int (pa_cons (pe_un un_neg pe_int) (pa_cons pe_int pa_nil))))) (blkOk_by (N := N_law) (sc := defScope s_law) (by decide +kernel)) (fun _ _ _ _ _ => (pg_name (i := 15) sc_law.nd rfl (.inr rfl))) (fun _ _ _ _ _ => pts_nil) (fun _ _ _ _ _ => (pe_told T TB_law rfl rfl rfl hr (by rfl) (by rfl) (by exact T.tk_law) (by exact T.tu_law) (lamS_by (by rfl)) (by rfl) (by intros; rfl) (fun A outer s H E f c' hr2 hx2 => (pe_callS (ok_decoded T) (hr2.mono (by decide)) (by rfl) T.g_decoded T.F_decoded.kp T.B_decoded hx2 (pa_cons (pv 5) (pa_cons (pv 6) (pa_cons (pv 15) (pa_cons (pv 8) pa_nil))))))))) (pe_op op_rep (pe_lst (pa_cons pe_str pa_nil)) pe_int) (nomark _))
    (pss_one (ps_ret pe_bl)) pss_nil)
    (pss_one (ps_if (pt_not (pt_val (pe_callS (ok__law_refused_right T TB__law_refused_right) (hr.mono (by decide)) (by rfl) T.g__law_refused_right T.F__law_refused_right.kp T.B__law_refused_right psE (pa_cons (pv 5) (pa_cons (pv 6) (pa_cons (pv 7) (pa_cons (pv 8) pa_nil)))))))
    (pss_one (ps_ret pe_bl)) pss_nil))))))))))))))))))
    (pss_one (ps_ret pe_bl))), ?_⟩
    refine ⟨_, rfl, _, _, rfl, .inl ha, _, _, rfl, _, _, rfl, _, rfl, ?_, ?_, for_it w_range (fun i σ H' => Xt (tK K) H0 H' ∧ ∃ t, σ = some (.ref a) :: t ∧ t.length = 15) ⟨Xt.refl, _, rfl, rfl⟩ (fun _ _ _ _ _ => trivial) ?_ (fun σ H' h => q _)⟩
    · split <;> split <;> simp only [List.length_map] at * <;> omega
    · split <;> split <;> simp only [List.length_map] at * <;> omega
    intro k x σ H1 H2 hk p hy
    obtain ⟨x1, t, rfl, ht⟩ := p
    obtain ⟨rfl, rfl⟩ := hy
    have hk2 : k ≤ 63 := by
      have : ((if (if ((ns.map V.int).length : Int) < 4 then ((ns.map V.int).length : Int) else 4) > 1 then (if ((ns.map V.int).length : Int) < 4 then ((ns.map V.int).length : Int) else 4) else 1) : Int) ≤ 63 := by
        rw [List.length_map]
        split <;> split <;> omega
      omega
    match t, ht with
    | [o1, o2, o3, o4, o5, o6, o7, o8, o9, o10, o11, o12, o13, o14, o15], _ =>
    refine ⟨_, rfl, _, rfl, a, ns, k, ?_, x1.seq ha, by omega, by omega, fun H2 x2 => ?_⟩
    · rw [Int.zero_add]
    have x2 := x1.trans x2
    refine ⟨_, rfl, _, (0 + (k : Int)), rfl, by omega, by omega, ?_⟩
    generalize hm : dr (cellV ns k) (0 + (k : Int)) = m
    have hm0 : 0 ≤ m := by rw [← hm]; exact (dr_rng _ _).1
    have hmA : m < pA := by rw [← hm]; exact (dr_rng _ _).2
    generalize (0 + (k : Int)) = k0
    -- the text
    refine ⟨_, rfl, m, 89, rfl, hm0, by omega, fun H3 l0 x3 hl0 hok0 => ?_⟩
    have xx := x2.trans x3
    clear x3
    refine ⟨_, _, rfl, rfl, ?_, ?_⟩
    · show (S l0).length + (Str.ofString "e").length ≤ _
      rw [e_e, S_len, S_len]
      exact nfits (by simp; omega)
    rw [show S l0 ++ Str.ofString "e" = S (l0 ++ [101]) by rw [e_e, S_app]]
    have hok : ∀ c ∈ l0 ++ [101], okSg c = true := fun c hc => by
      rcases List.mem_append.mp hc with hc | hc
      · exact hok0 c hc
      · rw [List.mem_singleton.mp hc]
        rfl
    have hll : (l0 ++ [101]).length ≤ 90 := by
      rw [List.length_append]
      simp
      omega
    have ln : l0 ++ [101] ≠ [] := by simp
    generalize l0 ++ [101] = l at hok hll ln ⊢
    clear hok0 hl0
    have g : goodT l := ⟨by omega, hok⟩
    have lz : (S l).length = l.length := S_len l
    have lz2 : (S l).cps.size = l.length := lz
    have ll := ltr_len l
    have gC := cnts_good ln hok
    have L := lens_ok gC.1 gC.2.1
    have F := L.fill gC.1 gC.2.1
    have hln : (lens (cnts l)).length = (ltr l).length := by rw [L.len]; exact List.length_map ..
    have lp0 : 0 < l.length := List.length_pos_iff.mpr ln
    have ll94 := ltr94 hok
    have lp := ltr_pos ln g.lt
    have le1 := enc_le ln hok
    -- coded
    refine ⟨xx.tb hT, fun G xn tg => ⟨_, rfl, l, rfl, by omega, fun _ _ H4 t p x4 et ep => ?_, fun h => absurd ⟨g, ln⟩ h⟩⟩
    have yy := (Xt.ex (T := tK K) xn tg).trans x4
    have xx := xx.trans yy
    clear x4 xn tg yy
    refine ⟨_, rfl, ⟨_, _, _, _, true, rfl, .ty "tuple", .base (.tup et), by rfl, ?_⟩⟩
    refine ⟨_, rfl, iteF ⟨_, rfl, t, _, rfl, .inr (.inl (.inl et)), rfl, _, rfl, ite2 (fun h => by rw [decide_eq_true (by rfl)] at h; cases h) fun _ => ?_⟩⟩
    refine ⟨_, rfl, t, _, rfl, .inl (.inl et), rfl, _, _, rfl, _, _, rfl, _, _, rfl, _, _, rfl, rfl, ?_⟩
    -- the counts
    refine ⟨_, rfl, _, rfl, fun D hD => lcP (T := tK K) w_str hD (by omega) (fun _ _ => trivial) (fun i => nV (l.count ((ltr l).getD i 0))) ?_ fun H5 x5 e5 => ?_⟩
    · intro i x H' hi hy x1 Q q
      obtain ⟨c, hc, rfl⟩ := hy
      have e : (ltr l).getD i 0 = c := by rw [List.getD_eq_getElem?_getD, hc]; rfl
      have ev : V.int (Txt.count (S l) (S [c])) = nV (l.count c) := congrArg V.int (count_S l c)
      rw [e, ← ev] at q
      exact ⟨_, rfl, ⟨_, rfl⟩, _, rfl, _, _, rfl, rfl, q _ .refl⟩
    have eb : ((List.range (ltr l).length).map fun i => nV (l.count ((ltr l).getD i 0))) = (cnts l).map nV := by
      have := kept_gen (0 : Nat) (fun _ => true) (fun c => nV (l.count c)) (ltr l)
      rw [kept_all] at this
      rw [this, List.filter_eq_self.mpr (fun _ _ => rfl)]
      unfold cnts
      rw [List.map_map]
      rfl
    rw [eb] at e5
    have ep := x5.lst ep
    have xx := xx.trans x5
    have lcn : (cnts l).length = (ltr l).length := List.length_map ..
    clear x5 eb et
    -- the letters
    refine ⟨_, rfl, ⟨_, rfl⟩, _, rfl, S l, rfl, Nat.lt_of_le_of_lt (show (S l).cps.size + 1 ≤ 513 by omega) (by decide), fun ys p6 s nd mm np => ?_⟩
    have e := letters_are g.lt s nd mm
    subst e
    generalize hH : upd H5 p6 _ = H6
    have y6 := newE (lo := True) (T := tK K) hH np
    have xx := xx.trans y6
    have e6 : H6 p6 = some (.lst (((ltr l).map sg).map V.str)) := atE hH
    have ep := y6.lst ep
    have e5 := y6.lst e5
    clear hH np s nd mm y6
    refine ⟨S [], p6, (ltr l).map sg, rfl, rfl, .inl (SqL.of e6), ?_, ?_⟩
    · have h1 : ((ltr l).map sg).map Str.length = (ltr l).map fun _ => 1 := by
        rw [List.map_map]
        exact List.map_congr_left fun c _ => S_len [c]
      rw [h1, List.length_map, List.map_const', List.sum_replicate_nat, Nat.mul_one, S_len]
      exact Nat.le_trans (show _ ≤ 128 by simp; omega) (by decide)
    rw [show Txt.join (S []) ((ltr l).map sg) = S (ltr l) by rw [show (ltr l).map sg = ((ltr l).map fun c => [c]).map S by rw [List.map_map]; rfl, join_S, flat1]]
    refine ⟨rfl, _, rfl, ite2 (fun h => ?_) fun _ => ?_⟩
    · rw [decide_eq_true rfl] at h
      cases h
    clear e6
    refine ⟨_, rfl, _, rfl, _, rfl, by rw [lz]; exact nfits (by omega), rfl, _, rfl, ite2 (fun h => ?_) fun _ => ?_⟩
    · rw [lz, decide_eq_true rfl] at h
      cases h
    have lzb : (sb (encB l)).length = (encB l).length := sb_len _
    refine ⟨_, rfl, _, rfl, by rw [lzb]; exact nfits (by omega), _, rfl, D, cnts l, rfl, SqL.of e5, by rw [lcn]; omega, fun H7 x7 => ⟨rfl, _, rfl, ite2 (fun h => ?_) fun _ => ?_⟩⟩
    · rw [lzb, enc_len ln hok, decide_eq_true rfl] at h
      cases h
    have ep := x7.lst ep
    have xx := xx.trans x7
    clear e5 x7
    -- the words
    refine ⟨_, rfl, p, toZ (lens (cnts l)), rfl, toZ_nV ep, by rw [List.length_map, hln]; omega, fun fs e F' H8 ws x8 nws ews => ?_, fun bad => absurd F (bad _ rfl)⟩
    have e := toZ_inj e
    rw [← e] at ews
    clear e F'
    have ep := x8.lst ep
    have xx := xx.trans x8
    have ews : H8 ws = some (.lst ((wtx l).map fun x => V.str (sb x))) := ews
    clear x8 nws
    refine ⟨_, rfl, ⟨_, rfl⟩, _, rfl, _, rfl, fun D2 hD2 => lcP (T := tK K) w_str hD2 (by omega) (fun _ _ => trivial) (fun i => .str (sb ((wtx l).getD (ixc l (l.getD i 0)) []))) ?_ fun H9 x9 e9 => ?_⟩
    · intro i x H' hi hy x1 Q q
      obtain ⟨c, hc, rfl⟩ := hy
      have e : l.getD i 0 = c := by rw [List.getD_eq_getElem?_getD, hc]; rfl
      rw [e] at q
      have hcm := List.mem_of_getElem? hc
      obtain ⟨x, hx, _, _⟩ := wtx_at ln hok (ixc_lt hcm (g.lt c hcm))
      have e2 : (wtx l).getD (ixc l c) [] = x := by rw [List.getD_eq_getElem?_getD, hx]; rfl
      rw [e2] at q
      exact ⟨_, rfl, _, rfl, ⟨_, rfl⟩, _, rfl, S (ltr l), S [c], ixc l c, [], rfl, rfl, ix_first hcm (g.lt c hcm), ws, _, _, .str (sb x), rfl, rfl, SqL.of (x1.lst ews), atI_nat (by rw [List.getElem?_map, hx]; rfl), q _ .refl⟩
    have eb2 : ((List.range l.length).map fun i => V.str (sb ((wtx l).getD (ixc l (l.getD i 0)) []))) = ((l.map fun c => (wtx l).getD (ixc l c) []).map sb).map V.str := by
      have := kept_gen (0 : Nat) (fun _ => true) (fun c => V.str (sb ((wtx l).getD (ixc l c) []))) l
      rw [kept_all] at this
      rw [this, List.filter_eq_self.mpr (fun _ _ => rfl), List.map_map, List.map_map]
      rfl
    rw [eb2] at e9
    have ej : Txt.join (S []) ((l.map fun c => (wtx l).getD (ixc l c) []).map sb) = sb (encB l) := by
      rw [show S [] = sb [] from rfl, join_sb]
      rfl
    refine ⟨S [], D2, (l.map fun c => (wtx l).getD (ixc l c) []).map sb, rfl, rfl, .inl (SqL.of e9), ?_, ?_⟩
    · rw [sum_len, S_len, ← List.length_flatten, List.length_map, List.length_map]
      show (encB l).length + l.length * 0 ≤ _
      exact nfits (by omega)
    rw [ej]
    refine ⟨rfl, _, rfl, ite2 (fun h => ?_) fun _ => ?_⟩
    · rw [decide_eq_true rfl] at h
      cases h
    have ep := x9.lst ep
    have ews := x9.lst ews
    have xx := xx.trans x9
    clear x9 e9 eb2 ej
    have F2 := F
    have elw : wrds (lens (cnts l)) = wtx l := rfl
    have lfs : (lens (cnts l)).length = (ltr l).length := hln
    -- decoded the text again
    refine ⟨xx.tb hT, fun G xn tg => ?_⟩
    have yg := Xt.ex (T := tK K) xn tg
    have ep := yg.lst ep
    have ews := yg.lst ews
    have xx := xx.trans yg
    refine ⟨_, rfl, _, rfl, _, rfl, _, rfl, ?_⟩
    dsimp only [tNil]
    refine dec_at (K := K) (n := ((l.length : Nat) : Int)) g ln ep (by rw [lzb]; omega) (fun h => ?_) fun bs k' ez en h1 h2 H10 y x10 rz => ?_
    · exfalso
      rcases h with h | h
      · exact h _ rfl
      · omega
    have ebs := sb_inj ez
    subst ebs
    have ek : k' = l.length := by omega
    subst ek
    have er := enc_read ln hok []
    rw [List.append_nil] at er
    have ey := rz.1 _ er
    rw [letters_back g.lt] at ey
    subst ey
    refine ⟨fun _ => ?_, fun hn => absurd er (hn _)⟩
    clear rz er ez en h1 h2
    have ep := x10.lst ep
    have ews := x10.lst ews
    have xx := xx.trans x10
    clear x10 yg xn tg
    refine ⟨_, rfl, neD_same (.str _) (.str _) (sh_str (strOk_S fun c hc => by have := g.lt c hc; omega)) ⟨_, rfl, iteF ?_⟩⟩
    -- drawn bits
    have r1 : 0 ≤ m / 2 ^ 20 % 2 ^ 40 := Int.emod_nonneg _ (by decide)
    have r2 : 0 ≤ m / 2 ^ 60 % 41 := Int.emod_nonneg _ (by decide)
    have r3 : m / 2 ^ 60 % 41 < 41 := Int.emod_lt_of_pos _ (by decide)
    refine ⟨_, rfl, _, _, rfl, rfl, ⟨by decide, by decide, by decide⟩, _, _, rfl, rfl, (wide_div (b := 21) (by decide) (by decide) (by decide) (by decide)), _, _, rfl, rfl, ⟨by decide, by decide, by decide⟩, _, _, rfl, rfl, (show (0 : Int) < 2 ^ 40 by decide), _, rfl, _, _, rfl, rfl, ⟨by decide, by decide, by decide⟩, _, _, rfl, rfl, (wide_div (b := 61) (by decide) (by decide) (by decide) (by decide)), _, _, rfl, rfl, (show (0 : Int) < 41 by decide), ?_⟩
    refine ⟨(m / 2 ^ 20 % 2 ^ 40).toNat, (m / 2 ^ 60 % 41).toNat, ?_, by omega, ?_⟩
    · rw [Int.toNat_of_nonneg r1, Int.toNat_of_nonneg r2]
      rfl
    have le : (bn (m / 2 ^ 20 % 2 ^ 40).toNat (m / 2 ^ 60 % 41).toNat).length ≤ 40 := by rw [bn_len]; omega
    generalize bn (m / 2 ^ 20 % 2 ^ 40).toNat (m / 2 ^ 60 % 41).toNat = el at le ⊢
    have lze : (sb el).length = el.length := sb_len _
    have l1 : (Str.ofString "1").length = 1 := by decide +kernel
    have r4 : 0 ≤ m / 64 % 20 := Int.emod_nonneg _ (by decide)
    have r5 : m / 64 % 20 < 20 := Int.emod_lt_of_pos _ (by decide)
    clear r1 r2 r3
    -- the pairs
    refine ⟨_, rfl, _, _, rfl, rfl, by rw [lzb, l1]; exact nfits (by omega), _, rfl, by exact (by decide : 2 ≤ sizeLine), fun t1 m1 => ?_⟩
    generalize hH : upd _ t1 _ = G1
    have yN := newE (lo := True) (T := tK K) hH m1
    have e_t1 := atE hH
    clear hH
    have ep := yN.lst ep
    have ews := yN.lst ews
    have xx := xx.trans yN
    clear yN
    have lz9 : (sb (encB l)).length ≤ sizeLine := by rw [lzb]; exact nfits (by omega)
    refine ⟨_, rfl, _, rfl, sb (encB l), rfl, lz9, _, rfl, by exact (by decide : 2 ≤ sizeLine), fun t2 m2 => ?_⟩
    generalize hH : upd _ t2 _ = G2
    have yN := newE (lo := True) (T := tK K) hH m2
    have e_t2 := atE hH
    clear hH
    have ep := yN.lst ep
    have ews := yN.lst ews
    have e_t1 := yN.tup e_t1
    have xx := xx.trans yN
    clear yN
    refine ⟨_, rfl, _, rfl, _, _, rfl, rfl, by exact (by decide : 2 ≤ sizeLine), fun t3 m3 => ?_⟩
    generalize hH : upd _ t3 _ = G3
    have yN := newE (lo := True) (T := tK K) hH m3
    have e_t3 := atE hH
    clear hH
    have ep := yN.lst ep
    have ews := yN.lst ews
    have e_t1 := yN.tup e_t1
    have e_t2 := yN.tup e_t2
    have xx := xx.trans yN
    clear yN
    refine ⟨by exact (by decide : 3 ≤ sizeLine), fun u1 n1 => ?_⟩
    generalize hH : upd _ u1 _ = G4
    have yN := newE (lo := True) (T := tK K) hH n1
    have e_u1 := atE hH
    clear hH
    have ep := yN.lst ep
    have ews := yN.lst ews
    have e_t1 := yN.tup e_t1
    have e_t2 := yN.tup e_t2
    have e_t3 := yN.tup e_t3
    have xx := xx.trans yN
    clear yN
    refine ⟨_, rfl, _, rfl, _, rfl, _, _, rfl, rfl, ⟨by decide, by decide⟩, _, _, rfl, rfl, (show (0 : Int) < 20 by decide), _, _, rfl, rfl, by exact (by decide : 2 ≤ sizeLine), fun t4 m4 => ?_⟩
    generalize hH : upd _ t4 _ = G5
    have yN := newE (lo := True) (T := tK K) hH m4
    have e_t4 := atE hH
    clear hH
    have ep := yN.lst ep
    have ews := yN.lst ews
    have e_u1 := yN.lst e_u1
    have e_t1 := yN.tup e_t1
    have e_t2 := yN.tup e_t2
    have e_t3 := yN.tup e_t3
    have xx := xx.trans yN
    clear yN
    refine ⟨by exact (by decide : 1 ≤ sizeLine), fun u2 n2 => ?_⟩
    generalize hH : upd _ u2 _ = G6
    have yN := newE (lo := True) (T := tK K) hH n2
    have e_u2 := atE hH
    clear hH
    have ep := yN.lst ep
    have ews := yN.lst ews
    have e_u1 := yN.lst e_u1
    have e_t1 := yN.tup e_t1
    have e_t2 := yN.tup e_t2
    have e_t3 := yN.tup e_t3
    have e_t4 := yN.tup e_t4
    have xx := xx.trans yN
    clear yN
    refine ⟨_, _, _, _, rfl, rfl, e_u1, e_u2, by exact (by decide : 4 ≤ sizeLine), fun u3 n3 => ?_⟩
    generalize hH : upd _ u3 _ = G7
    have yN := newE (lo := True) (T := tK K) hH n3
    have e_u3 := atE hH
    clear hH
    have ep := yN.lst ep
    have ews := yN.lst ews
    have e_t1 := yN.tup e_t1
    have e_t2 := yN.tup e_t2
    have e_t3 := yN.tup e_t3
    have e_t4 := yN.tup e_t4
    have xx := xx.trans yN
    clear yN
    refine ⟨_, rfl, _, rfl, _, rfl, _, _, rfl, rfl, by rw [lzb, lze]; exact nfits (by omega), _, rfl, _, _, rfl, rfl, by exact (by decide : 2 ≤ sizeLine), fun t5 m5 => ?_⟩
    generalize hH : upd _ t5 _ = G8
    have yN := newE (lo := True) (T := tK K) hH m5
    have e_t5 := atE hH
    clear hH
    have ep := yN.lst ep
    have ews := yN.lst ews
    have e_u3 := yN.lst e_u3
    have e_t1 := yN.tup e_t1
    have e_t2 := yN.tup e_t2
    have e_t3 := yN.tup e_t3
    have e_t4 := yN.tup e_t4
    have xx := xx.trans yN
    clear yN
    refine ⟨by exact (by decide : 1 ≤ sizeLine), fun u4 n4 => ?_⟩
    generalize hH : upd _ u4 _ = G9
    have yN := newE (lo := True) (T := tK K) hH n4
    have e_u4 := atE hH
    clear hH
    have ep := yN.lst ep
    have ews := yN.lst ews
    have e_u3 := yN.lst e_u3
    have e_t1 := yN.tup e_t1
    have e_t2 := yN.tup e_t2
    have e_t3 := yN.tup e_t3
    have e_t4 := yN.tup e_t4
    have e_t5 := yN.tup e_t5
    have xx := xx.trans yN
    clear yN
    refine ⟨_, _, _, _, rfl, rfl, e_u3, e_u4, by exact (by decide : 5 ≤ sizeLine), fun u5 n5 => ?_⟩
    generalize hH : upd _ u5 _ = G10
    have yN := newE (lo := True) (T := tK K) hH n5
    have e_u5 := atE hH
    clear hH
    have ep := yN.lst ep
    have ews := yN.lst ews
    have e_t1 := yN.tup e_t1
    have e_t2 := yN.tup e_t2
    have e_t3 := yN.tup e_t3
    have e_t4 := yN.tup e_t4
    have e_t5 := yN.tup e_t5
    have xx := xx.trans yN
    clear yN
    obtain ⟨qs, eqs, hqs, hq2⟩ : ∃ qs : List (V × (Wd × Nat)), G10 u5 = some (.lst (qs.map Prod.fst)) ∧ (∀ q ∈ qs, PairB G10 q) ∧ ∀ q ∈ qs, q.2.1.length ≤ 9000 ∧ 1 ≤ q.2.2 ∧ q.2.2 ≤ 512 := by
      refine ⟨[(.ref t1, (encB l ++ [true], l.length)), (.ref t2, ((encB l).drop 1, l.length)), (.ref t3, (encB l, l.length + 1)), (.ref t4, (el, (m / 64 % 20 + 1).toNat)), (.ref t5, (encB l ++ el, l.length + 3))], e_u5, ?_, ?_⟩
      · intro q hq
        simp only [List.mem_cons, List.not_mem_nil, or_false] at hq
        rcases hq with rfl | rfl | rfl | rfl | rfl
        · exact ⟨t1, rfl, by rw [e_t1, e_one, sb_app]⟩
        · exact ⟨t2, rfl, by rw [e_t2]; exact congrArg (fun z => some (HO.tup [V.str z, nV l.length])) (cut_sbD _ 1)⟩
        · exact ⟨t3, rfl, by rw [e_t3]; rfl⟩
        · refine ⟨t4, rfl, ?_⟩
          rw [e_t4]
          refine congrArg (fun z => some (HO.tup [V.str (sb el), V.int z])) ?_
          show m / 64 % 20 + 1 = ((m / 64 % 20 + 1).toNat : Int)
          omega
        · exact ⟨t5, rfl, by rw [e_t5, sb_app]; rfl⟩
      · intro q hq
        simp only [List.mem_cons, List.not_mem_nil, or_false] at hq
        rcases hq with rfl | rfl | rfl | rfl | rfl <;> simp only [List.length_append, List.length_drop, List.length_cons, List.length_nil] <;> omega
    clear e_t1 e_t2 e_t3 e_t4 e_t5 e_u1 e_u2 e_u3 e_u4 e_u5 m1 m2 m3 m4 m5 n1 n2 n3 n4 n5
    refine ⟨u5, rfl, ⟨_, SqL.of eqs⟩, for_it w_list (fun k σ H' => Xt (tK K) G10 H' ∧ ∃ t10 t13 t14 t15, σ = [some (.ref a), some (.int k0), some (.int m), some (.str (S l)), some (.ref t), some (.str (S (ltr l))), some (.ref p), some (nV l.length), some (.str (sb (encB l))), some (.ref D), t10, some (.ref ws), some (.str (sb el)), t13, t14, t15])
      ⟨.refl, _, _, _, _, rfl⟩ (fun _ _ _ _ h => SqL.of (h.1.lst eqs)) ?_ ?_⟩
    · intro k x σ Ha Hb hk hp hy
      obtain ⟨xa, t10, t13, t14, t15, rfl⟩ := hp
      obtain ⟨rfl, hx⟩ := hy
      rw [List.getElem?_map] at hx
      obtain ⟨q, hq, rfl⟩ := Option.map_eq_some_iff.mp hx
      have hqm := List.mem_of_getElem? hq
      obtain ⟨tq, eq, et⟩ := (hqs q hqm).xg xa
      obtain ⟨hb1, hb2, hb3⟩ := hq2 q hqm
      rw [eq]
      refine ⟨tq, _, rfl, .inl (.inl et), rfl, _, _, rfl, _, _, rfl, rfl, ?_⟩
      have epa := xa.lst ep
      have ewa := xa.lst ews
      refine ⟨(xx.trans xa).tb hT, fun G xn tg => ?_⟩
      have yg := Xt.ex (T := tK K) xn tg
      refine ⟨_, rfl, _, rfl, _, rfl, _, rfl, ?_⟩
      dsimp only [tNil]
      refine dec_at (K := K) (n := ((q.2.2 : Nat) : Int)) g ln (yg.lst epa) (by rw [sb_len]; omega) (fun h => ?_) fun bs k' ez en h1 h2 H11 y x11 rz => ?_
      · exfalso
        rcases h with h | h
        · exact h _ rfl
        · omega
      have ebs := sb_inj ez
      subst ebs
      have ek : k' = q.2.2 := by omega
      subst ek
      have hy : PyData.strOk y = true := by
        by_cases hr : ∃ is, rdK (wtx l) q.2.2 q.2.1 = some (is, [])
        · obtain ⟨is, hr⟩ := hr
          rw [rz.1 is hr]
          refine strOk_S fun c hc => ?_
          obtain ⟨i, _, rfl⟩ := List.mem_map.mp hc
          rw [List.getD_eq_getElem?_getD]
          cases hz : (ltr l)[i]? with
          | none => exact (by decide : 0 < 1114112)
          | some c =>
            have := (ltr_mem.mp (List.mem_of_getElem? hz)).1
            show c < 1114112
            omega
        · rw [rz.2 fun is h => hr ⟨is, h⟩]
          decide +kernel
      have rest : ∀ {HH : Hp}, Xt (tK K) Hb HH → ∀ HH2 z, Xt (tK K) HH HH2 → ResZ (ltr l) (wtx l) q.2.2 q.2.1 z → z = y := fun _ _ z _ r => by
        by_cases hr : ∃ is, rdK (wtx l) q.2.2 q.2.1 = some (is, [])
        · obtain ⟨is, hr⟩ := hr
          rw [rz.1 is hr, r.1 is hr]
        · rw [rz.2 fun is h => hr ⟨is, h⟩, r.2 fun is h => hr ⟨is, h⟩]
      refine ⟨fun _ => ?_, fun hno => ⟨"BadBits", by decide +kernel, rfl, rfl, fun H12 x12 => ?_⟩⟩
      · refine ⟨_, rfl, _, rfl, _, rfl, _, rfl, ltr l, lens (cnts l), ws, q.2.2, q.2.1, rfl, (yg.trans x11).lst ewa, F, hln, by omega, by omega, by omega, fun H13 z x13 rz2 => ?_⟩
        obtain rfl := rest (yg.trans x11) H13 z x13 rz2
        exact neD_same (.str _) (.str _) (sh_str hy) ⟨_, rfl, iteF ⟨xa.trans (yg.trans (x11.trans x13)), _, _, _, _, rfl⟩⟩
      · have x11 := x11.trans x12
        rw [← rz.2 hno]
        refine ⟨_, rfl, _, rfl, _, rfl, _, rfl, ltr l, lens (cnts l), ws, q.2.2, q.2.1, rfl, (yg.trans x11).lst ewa, F, hln, by omega, by omega, by omega, fun H13 z x13 rz2 => ?_⟩
        obtain rfl := rest (yg.trans x11) H13 z x13 rz2
        exact neD_same (.str _) (.str _) (sh_str hy) ⟨_, rfl, iteF ⟨xa.trans (yg.trans (x11.trans x13)), _, _, _, _, rfl⟩⟩
    · intro σ Ha hp
      obtain ⟨xa, t10, t13, t14, t15, rfl⟩ := hp
      have ep := xa.lst ep
      have xx := xx.trans xa
      clear xa eqs hqs hq2 ews
      refine ⟨_, rfl, by exact (by decide : 3 ≤ sizeLine), fun v1 n1 => ?_⟩
      generalize hH : upd _ v1 _ = Hc
      have yN := newE (lo := True) (T := tK K) hH n1
      have e_v1 := atE hH
      clear hH
      have ep := yN.lst ep
      have xx := xx.trans yN
      clear yN
      refine ⟨v1, rfl, ⟨_, SqL.of e_v1⟩, fun D3 hD3 => lcP (T := tK K) w_list hD3 (by decide) (fun _ x => SqL.of (x.lst e_v1)) (fun _ => .str "BadBits") ?_ fun Hd xd ed => ?_⟩
      · intro i x H' hi hy x1 Q q
        obtain ⟨n, rfl, hn⟩ : ∃ n : Int, x = .int n ∧ ¬ (1 ≤ n ∧ n ≤ 512) := by
          match i, hi with
          | 0, _ => exact ⟨0, (Option.some.inj hy).symm, by decide⟩
          | 1, _ => exact ⟨-1, (Option.some.inj hy).symm, by decide⟩
          | 2, _ => exact ⟨513, (Option.some.inj hy).symm, by decide⟩
        refine ⟨(xx.trans x1).tb hT, fun G xn tg => ?_⟩
        have yg := Xt.ex (T := tK K) xn tg
        refine ⟨_, rfl, _, rfl, _, rfl, _, rfl, ?_⟩
        dsimp only [tNil]
        refine dec_at (K := K) (n := n) g ln (yg.lst (x1.lst ep)) (by rw [lzb]; omega) (fun _ HH xg => ⟨"BadBits", by decide +kernel, rfl, rfl, fun H3 xh => q _ (yg.trans (xg.trans xh))⟩) fun bs k' ez en h1 h2 H11 y x11 rz => ?_
        exfalso
        exact hn (by omega)
      have ep := xd.lst ep
      have xx := xx.trans xd
      refine ⟨by exact (by decide : 1 ≤ sizeLine), fun v2 n2 => ?_⟩
      generalize hH : upd _ v2 _ = He2
      have yN := newE (lo := True) (T := tK K) hH n2
      have e_v2 := atE hH
      clear hH
      have ep := yN.lst ep
      have ed := yN.lst ed
      have xx := xx.trans yN
      clear yN
      refine ⟨v2, 3, _, rfl, rfl, e_v2, by decide, by decide, by exact (by decide : 1 * 3 ≤ sizeLine), fun v3 n3 => ?_⟩
      generalize hH : upd _ v3 _ = Hf2
      have yN := newE (lo := True) (T := tK K) hH n3
      have e_v3 := atE hH
      clear hH
      have ep := yN.lst ep
      have ed := yN.lst ed
      have xx := xx.trans yN
      clear yN
      have ee : Hf2 v3 = some (.lst (List.replicate 3 (.str "BadBits"))) := by rw [e_v3]; exact congrArg (fun z => some (HO.lst z)) (rep_flatV 3 _)
      have ed : Hf2 D3 = some (.lst (List.replicate 3 (.str "BadBits"))) := ed
      refine neD_same (dp_rep ed) (dp_rep ee) (sh_rep (by decide +kernel)) ⟨_, rfl, iteF ?_⟩
      clear ee ed xd e_v1 e_v2 e_v3 n1 n2 n3
      refine ⟨_, rfl, _, rfl, _, rfl, _, rfl, l, p, rfl, g, ln, by omega, ep, xx.tb hT, fun Hg xg => ⟨_, rfl, iteF ⟨xx.trans xg, _, rfl, rfl⟩⟩⟩
end
end Tw

set_option maxHeartbeats 0
namespace Tw
open PySem PySem.Spec PyProof.Rows L2 LamX
theorem law_at {w : World} {K : PySem.W.Frag} {mg : Str → Option Value} {fa : Addr} {h : Heap} (X : K.In h) (G : h.Ns mainGlobals mg) (hfa : mg ("law" : Str) = some (.ref fa)) (c : He.SaysX faL fnL [] tf exL w h K) :
    LamX.LawAtS PySem.Challenge.rw_tersewood_k41_whole_coded w K (L2N.CX PySem.Challenge.rw_tersewood_k41_whole_coded.prog w) 20 63 "_law_script" mg fa h := by
  have T : Tx K mg := ⟨⟨h, X, G, c.t.d⟩, c.more⟩
  have e := hfa.symm.trans T.g_law
  cases e
  refine ⟨fdOf K ("law", none), tf.map (He.cT K), spLaw K, fun p hp => ?_, fun p hp => ?_, fun p hp => ?_, fun s u => T.F_law.bindsA (ps := ["_law_script"]) (fun _ _ _ _ _ _ us hl => match us, hl with | [_], _ => rfl) s [u] rfl, fun H a ns hl hb hT hS => ?_, fun base KB GB hB => ok_law T (hB _ (List.mem_map_of_mem (f := He.cT K) (show (("_law_refused_right", none) : He.Defn) ∈ tf by decide +kernel))) (hB _ (List.mem_map_of_mem (f := He.cT K) (show (("law", none) : He.Defn) ∈ tf by decide +kernel)))⟩
  · obtain ⟨d, hd, rfl⟩ := List.mem_map.mp hp
    exact c.empty d hd
  · obtain ⟨d, hd, rfl⟩ := List.mem_map.mp hp
    exact c.out d hd
  · obtain ⟨d, hd, rfl⟩ := List.mem_map.mp hp
    exact PySem.W.codeHd_of_K X (c.hd d hd)
  · refine spLaw_of hS hl hb fun p hp => ?_
    unfold tK at hp
    simp only [List.mem_cons, List.not_mem_nil, or_false] at hp
    rcases hp with rfl | rfl
    · exact TabS.nil (hT _ (List.mem_map_of_mem (f := He.cT K) (show (("_law_refused_right", none) : He.Defn) ∈ tf by decide +kernel)))
    · exact TabS.nil (hT _ (List.mem_map_of_mem (f := He.cT K) (show (("law", none) : He.Defn) ∈ tf by decide +kernel)))
end Tw
open PySem PySem.W PySem.Calls PyProof.Rows
theorem PySem.Challenge.cw_tersewood_k41_whole_coded_holds : PySem.Challenge.rw_tersewood_k41_whole_coded.Holds := by
  w_on; o_law
  refine HandSHeadRun.head_any (r := OpenLaw.row PySem.Challenge.rw_tersewood_k41_whole_coded) (q := view (OpenLaw.row PySem.Challenge.rw_tersewood_k41_whole_coded).prog [40]) (H := Tw.hk) (ob := Tw.ob) (M := 30000) (loose := Tw.loose) (d := HandSHeadRun.topDef (OpenLaw.row PySem.Challenge.rw_tersewood_k41_whole_coded).prog 40) (kwd := []) Tw.ob_eq
    (by kernel_rfl) (fun s => by kernel_rfl) Tw.run (by kernel_rfl) (by kernel_rfl) (by kernel_rfl) (by rfl) (by first | assumption | decide +kernel) (by decide +kernel) ⟨rfl, rfl, rfl, rfl, rfl, by decide +kernel⟩ ?hw ?hc
  case hw => w_witness2
  case hc =>
    refine LamX.walk_ofTsE (l := PySem.Challenge.rw_tersewood_k41_whole_coded) (n := 63) (k := 20) (x := "_law_script") (CX := fun w => L2N.CX PySem.Challenge.rw_tersewood_k41_whole_coded.prog w) rfl (by decide) (by kernel_rfl) ⟨rfl, by decide, by decide⟩ ?F (fun w H s e s2 z => ?_)
    · intro w mg fa h Y G hmg0
      obtain ⟨K, KX, c⟩ := Y
      have hmg : mg ("law" : PySem.Str) = some (.ref fa) := by
        have e : (HandSHeadRun.topDef (OpenLaw.row PySem.Challenge.rw_tersewood_k41_whole_coded).prog 40).name = ("law" : PySem.Str) := by kernel_rfl
        rw [← e]
        exact hmg0
      exact ⟨K, KX, Tw.law_at KX G hmg c⟩
    · obtain ⟨_, _, _, _, _, _, _, _, _, _, _, _, z⟩ := z
      exact z
