import PyProof.Rows.All
import Wide.All
import OpenK.AllK
import Wide.FinOn
import KE.KStateDown
import Lean
import HandS.ForMost
import HandS.Exc
import HandS.TryOnly
import HandS.ExcOwn
import HandS.ExcCtx
import HandS.HotCalls
import HandS.ExcIs
import HandS.Lambda
import PyProof.SumAny
import HandS.Comp
import HandS.Defaults
import HandS.IsInst
import HandS.HeadHook1
import HandS.HeadHook2
import HandS.WordsExc
import HandS.Wide
import HandS.Evl
import HandS.SortInts
import HandS.HeadHook3
import HandS.HeadHook4
import HandS.StrMore
import HandS.Head0
import HandS.Head1
import HandS.Head2
import HandS.HeadEnd
import HandS.HeadWalk
import HandS.Walk
import HandS.NestedK
import PyProof.P3Eq
import PyProof.StrBlock2
import PyProof.StrLawsFrom
import KE.GoesEnum
import HandS.Style
import PyProof.Rows.StrRev
import HandS.More
import HandS.WordsDict
import HandS.Conv
import PyProof.Rows.SortShellAny
import HandS.Zip
import KE.GoesMore
import KE.GoesZip
import HandS.Set
import HandS.SetTxt0
import HandS.Replace
import HandS.SetFor
import HandS.EndTab
import PySem.Challenge.RW_tersewood_k90_whole_marked
set_option Elab.async false
set_option linter.all false
set_option maxRecDepth 100000
set_option maxHeartbeats 4000000
namespace Tw
open PySem PySem.Spec PyProof.Rows L2 LamX
/-! ### a lambda called where what it lets out has no context (L2N) -/
section
variable {X : Cx} {pins : List (Addr × Obj)} {σ : L2.St} {H HZ : Hp} {s s1 : Shared}
/-- the wish of the lambda's frame -/
def lamW (X : Cx) (A : Around) (outer : List Env) (s : Shared) (H : Hp) (E : XK) (scope : Scope) (f c' : Addr) : Value → Shared → Prop :=
  fun e s' => wpAny (model X.prog X.w) (A.deeper (lamEnv X scope s.heap.objs.size f c')) (leaving (lamEnv X scope s.heap.objs.size f c') e)
    (fun _ s'' => L2N.CX X.prog X.w outer H s E e s'') (fun e' s'' => L2N.CX X.prog X.w outer H s E e' s'') s'
/-- the lambda's context, in L2N -/
def lamN (X : Cx) (A : Around) (outer : List Env) (s : Shared) (H : Hp) (E : XK) (scope : Scope) (f c' : Addr) : Cx :=
  (lamCx X A outer s H E scope f c').wish (lamW X A outer s H E scope f c')
theorem lamN_takes {A : Around} {outer : List Env} {E : XK} {scope : Scope} {f c' : Addr} :
    L2N.Takes (lamN X A outer s H E scope f c') (fun cls d _ H => E cls d H) :=
  L2N.takes_of (E₁ := fun e' s'' => L2N.CX X.prog X.w outer H s E e' s'') rfl rfl rfl rfl
/-- the call of a name that holds the lambda, in the def that got it -/
theorem act {CXg : CXT} {Eg : XK} {Ng : List Str} {qg : Str} {sg : Scope} {g f c' : Addr} {cdg pm ctv : Value} {params : Arguments} {body : Expr} {scope : Scope} {k i : Nat} {a : Str}
    {pn : List (Addr × Obj)} {xe : Value → Shared → Prop} {W : WX} {E : XK} {tb : TE} {p1 p2 : Pos}
    (I : Inv X pins σ H s) (L : LamS X.env.scope scope)
    (hf : s.heap.get? f = some (PySem.W.kla_obj "<lambda>" (X.env.qual ++ "<lambda>") params body scope (cloFrom X.env.cells scope.names []) pm c' ctv)) (hfn : H f = none) (hfr : f ∉ frs X.stack)
    (hbind : bindArgs (PySem.W.kla_fn "<lambda>" (X.env.qual ++ "<lambda>") params body scope (cloFrom X.env.cells scope.names []) pm (.ref c') ctv) ⟨[], []⟩ = pure [])
    (tk : L2N.Takes ((cxOf CXg X.prog X.w X.K X.mg X.base Ng qg sg g cdg X.A X.stack s H Eg).tr pn xe) W)
    (hW : ∀ cls d σ' H', E cls d H' → W cls d σ' H') (hr : Room (k + 1) (X.A.deeper (envOfC qg sg s.heap.objs.size g cdg)))
    (hbody : ∀ (A : Around) (outer : List Env) (s : Shared) (H : Hp), Room k (A.deeper (lamEnv X scope s.heap.objs.size f c')) → PE (lamN X A outer s H E scope f c') body tb)
    (hN : Ng[i]? = some a) (hv : Vis sg a) (hd : (a == ("__debug__" : Str)) = false) (hcd : (a == ("__classdict__" : Str)) = false) :
    PE ((cxOf CXg X.prog X.w X.K X.mg X.base Ng qg sg g cdg X.A X.stack s H Eg).tr pn xe) (.Call (.Name a p1) [] [] p2)
      (fun σZ HZ Q => σZ[i]? = some (some (.ref f)) ∧ HZ c' = some (CodeO c' (X.env.qual ++ "<lambda>")) ∧ tb σ HZ Q) := by
  constructor
  intro pinsZ sZ σZ HZ Q IZ ⟨hs, hc, ht⟩
  refine wpAny_Call_Name_kw (thn ((pe_var (pos := p1) (i := i) hN hv hd hcd).run pinsZ sZ σZ HZ (fun v H1 => v = .ref f ∧ H1 = HZ) IZ ⟨.ref f, hs, rfl, rfl⟩) fun u s1 ⟨v, H1, I1, r1, ev, eH⟩ => ?_)
  subst ev eH
  obtain rfl : u = Value.ref f := r1
  have un : Un (frs X.stack) [] H H1 s.heap s1.heap := I1.base
  have of1 := un.keep f _ hf hfn hfr (List.not_mem_nil)
  refine PySem.W.callWith_F0 ⟨_, _, _, _, of1⟩ ?_
  obtain ⟨⟨oc, vs, t, hoc, hdc, hvc⟩, _, _⟩ := I1.hok c' _ hc
  have rc : codeAny (model X.prog X.w) (X.A.deeper (envOfC qg sg s.heap.objs.size g cdg)) (.call (.ref f) ⟨[], []⟩) (CR (L2N.CX X.prog X.w) (envOfC qg sg s.heap.objs.size g cdg :: X.stack) X.prog X.w H1 s1 Q E) s1 := by
    refine PySem.W.kla_callFunE hr.depth of1 rfl L.co L.gen rfl ⟨c', oc, vs, t, rfl, hoc, hdc, hvc⟩ ?_
    rw [hbind]
    refine wpAny_pure (wpAny_newFunctionEnv (fun y hy => (L.own y hy).2) (fun y hy => absurd hy List.not_mem_nil) (fun h₁ hns hsb => ⟨I1.nolimit.fresh _ hsb, ?_⟩) L.kind)
    have kp : ∀ b o, s1.heap.get? b = some o → h₁.get? b = some o := fun b o e => hsb.extBut b o (Nat.ne_of_lt (Heap.lt_size e)) (Heap.get?_push_of_some _ e)
    have J := (lam_start2 (E := E) (A := X.A.deeper (envOfC qg sg s.heap.objs.size g cdg)) (outer := envOfC qg sg s.heap.objs.size g cdg :: X.stack) (f := f) (c' := c') (tk := s1.toks + ([] : List (Str × Value)).length) I L I1.env0 hr.hd un hns kp).wish
      (lamW X (X.A.deeper (envOfC qg sg s.heap.objs.size g cdg)) (envOfC qg sg s.heap.objs.size g cdg :: X.stack) s1 H1 E scope f c')
    refine PySem.W.kla_codeExpr (wpAny_mono ((hbody _ _ s1 H1 (hr.deeper _)).run [] _ _ H1 Q J ht) (fun v s' hq => ?_) fun e s' hq => hq)
    obtain ⟨w', H', J', rv, q⟩ := hq
    exact ⟨w', H', J'.os, J'.bare, J'.base, J'.hok, rv, q⟩
  refine wpAny_call (codeAny_mono rc fun r s' hq => ?_)
  cases r with
  | error e => exact L2N.passes_call tk hW pinsZ σZ H1 s1 e s' I1 hq
  | ok fl =>
    cases fl with
    | ret u => exact I1.after hq
    | next => exact hq.elim
    | brk => exact hq.elim
    | cont => exact hq.elim
end
end Tw

set_option maxHeartbeats 4000000
namespace Tw
open PySem PySem.Spec PyProof.Rows L2 HotX L2H
/-! ### lists walked while an exception is handled -/
section
variable {prog : Program} {w : World} {A : Around} {E : Value → Shared → Prop} {s : Shared}
/-- the list iterator's end, where an exception without a context is handled -/
theorem list_end_hot {it l x1 : Addr} {i : Nat} {items : Array Value} {Q : Option Value → Shared → Prop} (hot : HotAt A x1 s.heap) (hit : s.heap.IsListIter it l i) (hl : s.heap.IsList l items) (hx : items[i]? = none) (hne : x1 ≠ it)
    (hQ : ∀ h', Heap.ExtBut it s.heap h' → Q none { s with heap := h' }) : wpAny (model prog w) A (pyNext (.ref it)) Q E s := by
  obtain ⟨o, ho, hc, hd⟩ := id hit
  obtain ⟨ol, hol, _, nl, hdl⟩ := hl
  obtain ⟨hh, o1, vs1, h1, d1, c1⟩ := hot
  unfold pyNext
  refine wpAny_bind (wpAny_attempt (wpAny_callSpecial?_slot (name := Str.ofString "__next__") hit.typeIs slot_listiter_next (wpAny_call_entry slot_listiter_next hit.typeIs entry_listiter_next ?_ (args_listiter_next _))))
  show wpAny _ _ (field (.ref it) 0 >>= _) _ _ s
  refine wpAny_bind (wpAny_field ho hd (x := .ref l) rfl ?_)
  show wpAny _ _ (if (Value.ref l == Value.none) = true then _ else _) _ _ s
  rw [if_neg (show ¬ ((Value.ref l == Value.none) = true) from Bool.false_ne_true)]
  show wpAny _ _ (field (.ref it) 1 >>= _) _ _ s
  refine wpAny_bind (wpAny_field ho hd (x := .int i 0) rfl ?_)
  show wpAny _ _ (seqItems? (.ref l) >>= _) _ _ s
  refine wpAny_bind (wpAny_seqItems hol hdl ?_)
  simp only [Int.toNat_natCast, hx]
  refine wpAny_bind (wpAny_rule (wpAny_bind (wpAny_setField ho hd (by simp) ?_)))
  show wpAny _ _ (newExc (.type "StopIteration") [] >>= _) _ _ _
  refine wpAny_bind ?_
  simp only [newExc, newTuple]
  refine wpAny_bind (wpAny_newObj_type ?_ (by size_fits))
  refine wpAny_bind (m := firstArgMember _ _) (wpAny_of_eq (a := Value.none) (by first | rfl | (simp only [firstArgMember]; rfl)) ?_)
  refine wpAny_newObj_type ?_ (by size_fits)
  have k1 : ∀ (b : Addr) (u : Obj), b ≠ it → s.heap.get? b = some u → ∀ (f : Obj → Obj) (p q : Obj), (((s.heap.update it f).push p).push q).get? b = some u := fun b u hb e f p q =>
    Heap.get?_push_of_some _ (Heap.get?_push_of_some _ ((Heap.get?_update_other _ _ (Ne.symm hb)).trans e))
  have kx := k1 x1 o1 hne h1
  refine raiseNew_hot ⟨hh, o1, vs1, kx _ _ _, d1, c1⟩ (Nat.ne_of_lt (Heap.lt_size (Heap.get?_push_of_some _ ((Heap.get?_update_other _ _ (Ne.symm hne)).trans h1)))) (Heap.get?_push_size _ rfl) rfl (by first | (simp; done) | (simp; omega) | (simp only [Array.size_append]; simp; omega)) ?_
  refine wpAny_bind (wpAny_isInstance (T := "StopIteration") (b := true) ⟨_, Heap.get?_update_self _ (Heap.get?_push_size _ rfl) rfl, rfl⟩ isSubtype_stop ?_)
  refine wpAny_pure (hQ _ fun b u hb e => ?_)
  rw [Heap.get?_update_other _ _ (Nat.ne_of_gt (Heap.lt_size (Heap.get?_push_of_some _ ((Heap.get?_update_other _ _ (Ne.symm hb)).trans e))))]
  exact k1 b u hb e _ _ _
end

/-- a list walked there, for the library's sum -/
theorem walks_hot {prog : Program} {w : World} {A : Around} {x1 : Addr} {o1 : Obj} {vs1 : Array Value} (hh : A.handled = some (.ref x1)) (d1 : o1.data = .fields vs1) (c1 : vs1[2]? = some .none) (I ax : Addr) (hne : ax ≠ I) (hx : x1 ≠ I) (items : Array Value) :
    Walks prog w A I [I, ax, x1] [I] items.size (fun i v => items[i]? = some v) (fun i h => h.IsListIter I ax i ∧ h.IsList ax items ∧ h.get? x1 = some o1) where
  sub := fun b hb => by
    have e : b = I := List.mem_singleton.mp hb
    rw [e]
    exact List.mem_cons_self
  frame := fun _ _ _ st hk => ⟨st.1.at fun o e => hk I (by simp) o e, st.2.1.at fun o e => hk ax (by simp) o e, hk x1 (by simp) _ st.2.2⟩
  item := fun i s Q E hi st hQ => by
    refine wpAny_pyNext_list_item st.1 st.2.1 (x := items[i]) (by simp [hi]) fun h' hit' hs' => ?_
    exact hQ _ h' s.toks (by simp [hi]) ⟨hit', st.2.1.extBut hs'.extBut hne, hs'.extBut x1 _ hx st.2.2⟩ fun b o hb e => hs'.extBut b o (fun h => hb (by simp [h])) e
  done := fun s Q E st hQ => by
    refine list_end_hot ⟨hh, o1, vs1, st.2.2, d1, c1⟩ st.1 st.2.1 (by simp) hx fun h' eb => ?_
    exact hQ h' s.toks fun b o hb e => eb b o (fun h => hb (by simp [h])) e
  self := fun i s Q E st h => wpAny_pyIter_listiter st.1 h
section
variable {X : Cx} {pins : List (Addr × Obj)} {σ : L2.St} {H : Hp} {s : Shared}
/-- sum(xs) there -/
theorem cr_sumH (hc : HotC X) : CallR X (.builtin "sum") (rSum X.K) := by
  intro pins s σ H vs us Q I r h
  obtain ⟨a, ns, rfl, hs, q⟩ := h
  obtain ⟨its, rv, hl, _⟩ := I.list hs
  rw [Vals.ref1 r]
  obtain ⟨p, ⟨hh, v1, e1, c1⟩, hp⟩ := hc
  have P1 := (I.pin p (List.mem_append_left _ hp)).1
  have hi := rv.ints
  obtain ⟨xs, e⟩ := hi.allInts.items
  have hn : numsOf (intItems xs).toList = ns := by rw [← e]; exact hi.numsOf
  rw [nums_intItems] at hn
  have hl2 := hl.isList
  rw [e] at hl2
  refine call_sum_walkG (iter_intList hl2 fun s₂ es st hfp hlI => ?_)
  have k2 : ∀ b o, s.heap.get? b = some o → s₂.heap.get? b = some o := fun b o e => by
    rw [es]
    exact Heap.get?_push_of_some _ e
  have hx : p.1 ≠ s.heap.objs.size := Nat.ne_of_lt (Heap.lt_size P1)
  subst es
  refine ⟨_, _, _, _, _, _, numAt xs, rfl, walks_hot (A := X.A.in1) hh e1 c1 _ a hlI hx (intItems xs), ⟨st.1, st.2, k2 _ _ P1⟩, fun b hb => ?_, (fun _ _ => intItems_at), fun h' tk t' hk => ?_⟩
  · have hb2 : b = s.heap.objs.size ∨ b = a ∨ b = p.1 := by simpa using hb
    rcases hb2 with e | e | e
    · exact hfp b (by simp [e])
    · exact hfp b (by simp [e])
    · rw [e]
      exact Heap.lt_size (k2 _ _ P1)
  · refine ⟨.int _, H, I.kept (h' := h') (t' := tk) (old_kept hk), ⟨t', rfl⟩, ?_⟩
    have e4 : preSum (numAt xs) (intItems xs).size = ns.sum := by
      rw [show (intItems xs).size = xs.size by simp [intItems], preSum_eq, List.take_of_length_le (by simp), hn]
    rw [e4]
    exact q
end
end Tw

set_option maxHeartbeats 4000000
namespace Tw
open PySem PySem.Spec PyProof.Rows L2 HotX L2H
section
variable {X : Cx} {pins : List (Addr × Obj)} {σ : L2.St} {H : Hp} {s : Shared} {a it : Addr} {xs : List V} {i : Nat}
theorem list_item_any {A : Around} {E : Value → Shared → Prop} {x : V} (I : Inv X pins σ H s) (hq : SqL X.K H a xs) (hx : xs[i]? = some x) (st : s.heap.IsListIter it a i) (f : FpOk X pins H it) {Q : Option Value → Shared → Prop}
    (q : ∀ u s1, RelV x u → Inv X pins σ H s1 → s1.heap.IsListIter it a (i + 1) → Q (some u) s1) : wpAny (model X.prog X.w) A (pyNext (.ref it)) Q E s := by
  obtain ⟨its, rv, p, hz⟩ := I.list hq
  obtain ⟨u, hu, ru⟩ := rv.get hx
  obtain ⟨f0, f1, f2, f3, f4, f5⟩ := f
  refine wpAny_pyNext_list_item st p.isList (x := u) (by simpa using hu) fun h' st' sb => ?_
  exact q u _ ru (I.turned (t' := s.toks) (fun b o hb e => (sb.2 b hb).trans e) f0 f1 f3 f4 f5) st'
theorem list_done_hot {A : Around} {E : Value → Shared → Prop} {x1 : Addr} (I : Inv X pins σ H s) (hot : HotAt A x1 s.heap) (hq : SqL X.K H a xs) (hx : xs.length ≤ i) (st : s.heap.IsListIter it a i) (f : FpOk X pins H it) (hne : x1 ≠ it) {Q : Option Value → Shared → Prop}
    (q : ∀ s1, Inv X pins σ H s1 → Q none s1) : wpAny (model X.prog X.w) A (pyNext (.ref it)) Q E s := by
  obtain ⟨its, rv, p, hz⟩ := I.list hq
  obtain ⟨f0, f1, f2, f3, f4, f5⟩ := f
  have hl := rv.length
  exact list_end_hot hot st p.isList (by simp; omega) hne fun h' eb => q _ (I.turned (t' := s.toks) (fun b o hb e => eb b o hb e) f0 f1 f3 f4 f5)
end
section
variable {X : Cx}
/-- [elt for target in l] where an exception is handled; the list l stands still -/
def tLcH (K : PySem.W.Frag) (tl : TE) (g : TG) (te : TE) (vs : List Nat) : TE := fun σ H Q => tl σ H fun x H1 => ∃ a xs, x = .ref a ∧ SqL K H1 a xs ∧ ∀ D, H1 D = none → ∃ W : Nat → Hp → Prop, W 0 (upd H1 D (.lst [])) ∧ (∀ i H, W i H → SqL K H a xs) ∧
  (∀ i x H, xs[i]? = some x → W i H → g x (wipe σ vs) H fun σ2 H2 => wipe σ2 vs = wipe σ vs ∧ te σ2 H2 fun y H4 => ∃ acc, H4 D = some (.lst acc) ∧ acc.length < sizeLine ∧ W (i + 1) (upd H4 D (.lst (acc ++ [y])))) ∧
  (∀ H, W xs.length H → Q (.ref D) H)
theorem pe_lcH {elt tg iter : Expr} {scope : Scope} {own : List (Str × Nat)} {pos : Pos} {tl : TE} {g : TG} {te : TE} (hc : HotC X) (hN : X.N.Nodup) (hl : PE X iter tl) (ok : BlkOk X.N X.env.scope scope own)
    (hg : ∀ (s : Shared) (H : Hp) (C : Addr) (cl : List (Str × Addr)) (fp : List Addr), PG (X.blk s H scope (compEnvC scope cl C X.env) fp) tg g)
    (he : ∀ (s : Shared) (H : Hp) (C : Addr) (cl : List (Str × Addr)) (fp : List Addr), PE (X.blk s H scope (compEnvC scope cl C X.env) fp) elt te) (hs : ∀ x, foldedSetIterable iter X.env x = pure x := by intro _; rfl) :
    PE X (.ListComp elt [⟨tg, iter, [], 0⟩] scope pos) (tLcH X.K tl g te (own.map (·.2))) := by
  refine ⟨fun pins s σ H Q I h => ?_⟩
  rw [eval_ListComp]
  have hfree : ∀ y ∈ scope.names, y.2 = .free → ∃ c, X.env.cells.lookup y.1 = some c := fun y hy e => by
    rcases ok.free y hy e with k | k
    · exact I.ok.has _ (.inl k)
    · exact I.ok.has _ (.inr k)
  obtain ⟨p, ⟨hh, v1, e1, c1⟩, hp⟩ := hc
  refine wpAny_comprehension_free (use := none) rfl hs (closure_ok hfree) ok.kind (fun y hy e => by rw [ok.uniq y hy, e]) ?_
  refine thn (hl.run pins s σ H _ I h) fun v s1 ⟨x, H1, I1, r1, a, xs, ex, hq, step⟩ => ?_
  subst ex
  cases r1
  obtain ⟨its, rv, pl, hz⟩ := I1.list hq
  refine wpAny_pyIter_list pl.isList ?_
  -- the iterator, the new list, the block's frame
  generalize hit : s1.heap.objs.size = it
  have I2 : Inv X pins σ H1 { s1 with heap := s1.heap.push { cls := .type "list_iterator", data := .fields #[.ref a, .int 0 0] } } := I1.kept (t' := s1.toks) fun b o e => Heap.get?_push_of_some _ e
  have f2 : FpOk X pins H1 it := by
    have z := I1.fpOk (H' := H1) (b := it) (by rw [← hit]; exact Nat.le_refl _) (I1.hok.fresh (by rw [← hit]; exact Nat.le_refl _))
    exact z
  have st2 : ({ s1 with heap := s1.heap.push { cls := .type "list_iterator", data := .fields #[.ref a, .int 0 0] } } : Shared).heap.IsListIter it a 0 := ⟨_, by rw [← hit]; exact Heap.get?_push_size _ rfl, rfl, rfl⟩
  generalize ({ s1 with heap := s1.heap.push { cls := .type "list_iterator", data := .fields #[.ref a, .int 0 0] } } : Shared) = s2 at I2 st2 ⊢
  refine wpAny_newObj_type (newEnv_comp ?_) (by show 0 ≤ sizeLine; decide)
  generalize hD : s2.heap.objs.size = D
  have hDn : H1 D = none := I2.hok.fresh (Nat.le_of_eq hD)
  obtain ⟨W, w0, wl, wt, we⟩ := step D hDn
  generalize hs3 : ({ s2 with heap := s2.heap.push { cls := .type "list", data := .seq ([] : List Value).toArray } } : Shared) = s3
  have h3 : s3.heap = s2.heap.push { cls := .type "list", data := .seq ([] : List Value).toArray } := by rw [← hs3]
  have I3 : Inv X pins σ (upd H1 D (.lst [])) s3 := by
    rw [← hs3]
    refine I2.laid (t' := s2.toks) (fun b o e => Heap.get?_push_of_some _ e) (Nat.le_of_eq hD) ⟨Nat.zero_le _, [], 0, .nil, ?_⟩
    rw [← hD]
    exact Heap.get?_push_size _ rfl
  have ltI : it < s2.heap.objs.size := by
    obtain ⟨o, e, _⟩ := st2
    exact Heap.lt_size e
  have f3 : ∀ b ∈ [it], FpOk X pins (upd H1 D (.lst [])) b ∧ b < s3.heap.objs.size := fun b hb => by
    have eb : b = it := List.mem_singleton.mp hb
    subst eb
    refine ⟨⟨?_, f2.2⟩, by rw [h3, Heap.size_push]; exact Nat.lt_succ_of_lt ltI⟩
    rw [upd_ne (by rw [← hD]; exact Nat.ne_of_lt ltI)]
    exact f2.1
  have st3 : s3.heap.IsListIter it a 0 := st2.at fun o e => by rw [h3]; exact Heap.get?_push_of_some _ e
  have P3 := I3.pin p (List.mem_append_left _ hp)
  have hx1 : p.1 ≠ it := (f3 it List.mem_cons_self).1.2.2.2.2.2 p (List.mem_append_left _ hp)
  have I4 := block_start I3 ok hN f3
  have pg := hg s3 (upd H1 D (.lst [])) s3.heap.objs.size (cellsFrom (s3.heap.objs.size + 1) scope.names (cloFrom X.env.cells scope.names [])) [it]
  have pe := he s3 (upd H1 D (.lst [])) s3.heap.objs.size (cellsFrom (s3.heap.objs.size + 1) scope.names (cloFrom X.env.cells scope.names [])) [it]
  show codeAny _ _ (.compStart (.ListComp elt [⟨tg, iter, [], 0⟩] scope pos) 0 (.ref it) (.ref D) (compEnvC scope (cellsFrom (s3.heap.objs.size + 1) scope.names (cloFrom X.env.cells scope.names [])) s3.heap.objs.size X.env)) (compPost (model X.prog X.w) X.A X.xe none (EP X pins σ Q) (.ref D) s3.heap.objs.size) { s3 with heap := pushCells (s3.heap.push { cls := .type "dict", data := .dict #[] }) scope.names }
  generalize hce : compEnvC scope (cellsFrom (s3.heap.objs.size + 1) scope.names (cloFrom X.env.cells scope.names [])) s3.heap.objs.size X.env = ce at I4 pg pe ⊢
  have cL : ce.locals = s3.heap.objs.size := by subst hce; rfl
  generalize hH3 : upd H1 D (.lst []) = H3 at I3 I4 pg pe w0 f3 P3
  generalize hs4 : ({ s3 with heap := pushCells (s3.heap.push { cls := .type "dict", data := .dict #[] }) scope.names } : Shared) = s4 at I4 ⊢
  have k4 : ∀ b o, s3.heap.get? b = some o → s4.heap.get? b = some o := fun b o e => by
    rw [← hs4]
    exact pushCells_keeps _ _ _ _ (Heap.get?_push_of_some _ e)
  have st4 : s4.heap.IsListIter it a 0 := st3.at fun o e => k4 _ _ e
  have J4 : Inv (X.blk s3 H3 scope ce [it]) [p] (wipe σ (own.map (·.2))) H3 s4 := I4.pins_of fun q hq => by
    have eq : q = p := List.mem_singleton.mp hq
    subst eq
    refine ⟨k4 _ _ P3.1, P3.2.1, ?_, fun z => ?_, P3.2.2.2.2⟩
    · show q.1 ≠ ce.locals
      rw [cL]
      exact Nat.ne_of_lt (Heap.lt_size P3.1)
    · exact (List.mem_cons.mp (I3.stkSub q.1 z)).elim P3.2.2.1 P3.2.2.2.1
  have stat : ∀ {σ' : L2.St} {H' : Hp} {s' : Shared}, Inv (X.blk s3 H3 scope ce [it]) [p] σ' H' s' → H' it = none → FpOk (X.blk s3 H3 scope ce [it]) [p] H' it := fun {σ' H' s'} I' hn =>
    ⟨hn, (I'.ok.exf it List.mem_cons_self).1, I'.ok.exfs it List.mem_cons_self, .inl List.mem_cons_self, fun x c e => (I'.ok.exf it List.mem_cons_self).2 x c e, fun q hq => by
      have eq : q = p := by simpa using (show q ∈ ([] : List (Addr × Obj)) ++ [p] from hq)
      rw [eq]
      exact hx1⟩
  have loop : codeAny (model X.prog X.w) X.A (.compLoop (.ListComp elt [⟨tg, iter, [], 0⟩] scope pos) 0 (.ref it) (.ref D) ce) (compPost (model X.prog X.w) X.A X.xe none (EP X pins σ Q) (.ref D) s3.heap.objs.size) s4 := by
    refine compLoop_any (fun n s' => ∃ i H', i + n = xs.length ∧ Inv (X.blk s3 H3 scope ce [it]) [p] (wipe σ (own.map (·.2))) H' s' ∧ s'.heap.IsListIter it a i ∧ H' it = none ∧ W i H') ?_ xs.length ⟨0, H3, Nat.zero_add _, J4, st4, (f3 it List.mem_cons_self).1.1, w0⟩
    rintro n s5 ⟨i, H5, ein, I5, st5, n5, w5⟩
    have P5 := I5.pin p (by simp)
    have hot5 : HotAt X.A p.1 s5.heap := ⟨hh, p.2, v1, P5.1, e1, c1⟩
    have q5 : SqL X.K H5 a xs := wl i H5 w5
    cases n with
    | zero =>
      refine list_done_hot I5 hot5 q5 (by omega) st5 (stat I5 n5) hx1 fun s6 I6 => ?_
      have ei : i = xs.length := by omega
      rw [ei] at w5
      have I7 : Inv X pins σ H5 s6 := I3.call' (ch := [it]) I6.os I6.base I6.hok I6.bare fun b hb => ⟨(f3 b hb).1.2.2.2.1, (f3 b hb).1.2.1, (f3 b hb).1.2.2.2.2.1, (f3 b hb).1.2.2.2.2.2⟩
      have nC : H5 s3.heap.objs.size = none := by
        have z : H5 ce.locals = none := I6.free
        rw [cL] at z
        exact z
      obtain ⟨m, hn, _⟩ := I6.loc
      have hn : s6.heap.Ns ce.locals m := hn
      rw [cL] at hn
      refine ⟨m, hn, fun h'' sb => ?_⟩
      obtain ⟨f0, f1, f2, f3, f4, f5⟩ := I3.fpOk (Nat.le_refl _) nC
      exact ⟨.ref D, H5, I7.turned (t' := s6.toks) (fun b o hb e => (sb.2 b hb).trans e) f0 f1 f3 f4 f5, rfl, we H5 w5⟩
    | succ n =>
      have hi : i < xs.length := by omega
      have hx : xs[i]? = some xs[i] := List.getElem?_eq_getElem hi
      refine list_item_any I5 q5 hx st5 (stat I5 n5) fun u s6 ru I6 st6 => ?_
      obtain ⟨oi, ei, ci, di⟩ := id st6
      refine go_of ei ci di (by decide) ?_
      have I6' : Inv (X.blk s3 H3 scope ce [it]) ([p] ++ [(it, oi)]) (wipe σ (own.map (·.2))) H5 s6 := I6.pins_of fun q hq => by
        rcases List.mem_append.mp hq with z | z
        · exact I6.pin q (List.mem_append_right _ z)
        · have eq : q = (it, oi) := List.mem_singleton.mp z
          subst eq
          obtain ⟨g0, g1, g2, _⟩ := stat I6 n5
          exact ⟨ei, g0, g1, g2, fun v z => by rw [di] at z; cases z⟩
      refine thnF (pg.run _ s6 _ H5 xs[i] u _ I6' ru (wt i _ H5 hx w5)) fun _ s8 ⟨σ8, H8, I8, hw8, q8⟩ => ?_
      refine wpAny_tests_nil ?_
      rw [if_pos rfl]
      refine thnF (pe.run _ s8 σ8 H8 _ I8 q8) fun z s10 ⟨yv, H10, I10, r10, acc, hD10, hz10, nx⟩ => ?_
      refine app_ok (X := X.blk s3 H3 scope ce [it]) I10 hD10 hz10 r10 fun s11 I11 => ?_
      have PI := I11.pin (it, oi) (by simp)
      have hl : (wipe σ (own.map (·.2))).length = σ8.length := by rw [← hw8, wipe_length]
      refine ⟨n, Nat.lt_succ_self _, i + 1, _, by omega, (I11.pins_of (pins' := [p]) fun q hq => I11.pin q (by simp at hq ⊢; exact .inl hq)).weak hl (fun j v e => ?_), ⟨oi, PI.1, ci, di⟩, PI.2.1, nx⟩
      rw [← hw8] at e
      exact (wipe_some e).1
  exact codeAny_compStart_list loop (wpAny_pyIter_listiter st4 loop)
end
end Tw

set_option maxHeartbeats 4000000
namespace Tw
open PySem PySem.Spec PyProof.Rows L2 LamX
/-! ### what stays from one heap to a later one: all but tables of code objects, which stay tables; an instance's field "seen" may change -/
def sn (n : Int) : List (Str × V) := [("seen", .int n)]
def Sn (lo : Prop) (o o' : HO) : Prop := o' = o ∨ lo ∧ ∃ (C dx : Addr) (fs : List (Str × V)) (n n' : Int), o = .ins C dx (fs ++ sn n) ∧ o' = .ins C dx (fs ++ sn n')
theorem Sn.refl {lo : Prop} {o : HO} : Sn lo o o := .inl rfl
theorem Sn.trans {lo : Prop} {o p q : HO} (a : Sn lo o p) (b : Sn lo p q) : Sn lo o q := by
  rcases a with rfl | ⟨hl, C, dx, fs, n, n1, e1, e2⟩
  · exact b
  · rcases b with rfl | ⟨_, C2, dx2, fs2, n2, n3, e3, e4⟩
    · exact .inr ⟨hl, C, dx, fs, n, n1, e1, e2⟩
    · rw [e2] at e3
      injection e3 with h1 h2 h3
      have h4 := congrArg List.dropLast h3
      unfold sn at h4
      rw [List.dropLast_concat, List.dropLast_concat] at h4
      subst h1 h2 h4
      exact .inr ⟨hl, C, dx, fs, n, n3, e1, e4⟩
/-- such an object stays as it is -/
def Fix (o : HO) : Prop := ∀ C dx fs, o ≠ .ins C dx fs
theorem Sn.fix {lo : Prop} {o o' : HO} (h : Sn lo o o') (f : Fix o) : o' = o := by
  rcases h with h | ⟨_, C, dx, fs, n, n', h, _⟩
  · exact h
  · exact absurd h (f _ _ _)
theorem Sn.tbl {lo : Prop} {o o' : HO} (h : Sn lo o o') (f : ∀ ps, o ≠ .tbl ps) : ∀ ps, o' ≠ .tbl ps := by
  rcases h with h | ⟨_, C, dx, fs, n, n', _, h⟩
  · rw [h]
    exact f
  · rw [h]
    exact fun ps e => nomatch e
structure Xg (lo : Prop) (T : List (Addr × Str)) (H H' : Hp) : Prop where
  st : ∀ b o, H b = some o → (∀ ps, o ≠ .tbl ps) → ∃ o', H' b = some o' ∧ Sn lo o o'
  tb : Tabs T H → Tabs T H'
/-- loose: looks may be counted; strict: all stays -/
abbrev Xt (T : List (Addr × Str)) (H H' : Hp) : Prop := Xg True T H H'
abbrev Xs (T : List (Addr × Str)) (H H' : Hp) : Prop := Xg False T H H'
section
variable {lo : Prop} {T : List (Addr × Str)} {H H1 H2 : Hp} {K : PySem.W.Frag} {a p : Addr} {o : HO} {xs : List V}
theorem Xg.ex (e : ExtN H H1) (t : Tabs T H1) : Xg lo T H H1 := ⟨fun b o h n => ⟨o, e b o h n, .refl⟩, fun _ => t⟩
theorem Xg.refl : Xg lo T H H := ⟨fun _ o h _ => ⟨o, h, .refl⟩, id⟩
theorem Xg.trans (a : Xg lo T H H1) (b : Xg lo T H1 H2) : Xg lo T H H2 := ⟨fun c o h n => by
  obtain ⟨o1, h1, s1⟩ := a.st c o h n
  obtain ⟨o2, h2, s2⟩ := b.st c o1 h1 (s1.tbl n)
  exact ⟨o2, h2, s1.trans s2⟩, fun t => b.tb (a.tb t)⟩
theorem Xg.of (e : ∀ b o, H b = some o → H1 b = some o) : Xg lo T H H1 := ⟨fun b o h _ => ⟨o, e b o h, .refl⟩, fun t => t.ext e⟩
theorem Xg.new (h : H p = none) : Xg lo T H (upd H p o) := .of fun b u e => by rw [upd_ne (ne_of_none e h)]; exact e
/-- no table, no code object stands at p -/
def Pl (H : Hp) (p : Addr) : Prop := ∀ u, H p = some u → (∀ ps, u ≠ .tbl ps) ∧ ∀ f, u ≠ .ext f
theorem Pl.lst (h : H p = some (.lst xs)) : Pl H p := fun u e => by
  rw [h] at e
  cases e
  exact ⟨fun ps z => (nomatch z), fun f z => (nomatch z)⟩
theorem Pl.ins {C dx : Addr} {fs : List (Str × V)} (h : H p = some (.ins C dx fs)) : Pl H p := fun u e => by
  rw [h] at e
  cases e
  exact ⟨fun ps z => (nomatch z), fun f z => (nomatch z)⟩
theorem tabs_upd {H' : Hp} (t : Tabs T H') (h : Pl H' p) : Tabs T (upd H' p o) := fun q hq => by
  obtain ⟨ps, h1, h2, h3⟩ := t q hq
  refine ⟨ps, by rw [upd_ne fun z => by rw [z] at h1; exact (h _ h1).1 _ rfl]; exact h1, h2, fun pos cv hc => ?_⟩
  obtain ⟨c, e1, e2⟩ := h3 pos cv hc
  exact ⟨c, e1, by rw [upd_ne fun z => by rw [z] at e2; exact (h _ e2).2 _ rfl]; exact e2⟩
/-- no proper object of H stands at p -/
def Nw (H : Hp) (p : Addr) : Prop := ∀ o, H p = some o → ∃ ps, o = .tbl ps
theorem Nw.of (h : H p = none) : Nw H p := fun o e => by
  rw [h] at e
  cases e
theorem Xg.nw (e : Xg lo T H H1) (h : Nw H1 p) : Nw H p := fun o ho => by
  cases o with
  | tbl ps => exact ⟨ps, rfl⟩
  | _ =>
    obtain ⟨o', h1, s⟩ := e.st p _ ho fun ps z => by cases z
    obtain ⟨ps, h2⟩ := h _ h1
    exact absurd h2 (s.tbl (fun ps z => by cases z) ps)
theorem Nw.ne (h : Nw H p) (ha : H a = some o) (ho : ∀ ps, o ≠ .tbl ps) : a ≠ p := fun z => by
  rw [z] at ha
  obtain ⟨ps, e⟩ := h _ ha
  exact ho ps e
theorem Nw.nl (h : Nw H p) (ha : H a = some (.lst xs)) : a ≠ p := h.ne ha fun ps z => by cases z
/-- an object that H does not know is written in a later heap -/
theorem Xg.put {H' : Hp} (e : Xg lo T H H') (h : Nw H p) (hl : Pl H' p) : Xg lo T H (upd H' p o) :=
  ⟨fun b u hb n => by rw [upd_ne (h.ne hb n)]; exact e.st b u hb n, fun t => tabs_upd (e.tb t) hl⟩
theorem Xg.mut {H' : Hp} {ys : List V} (e : Xg lo T H H') (h : Nw H p) (hl : H' p = some (.lst ys)) : Xg lo T H (upd H' p (.lst xs)) := e.put h (.lst hl)
/-- an instance's last field "seen" changes -/
theorem Xg.see (hlo : lo) {C dx : Addr} {fs : List (Str × V)} {n n' : Int} (h : H p = some (.ins C dx (fs ++ sn n))) : Xg lo T H (upd H p (.ins C dx (fs ++ sn n'))) :=
  ⟨fun b u hb _ => by
    by_cases e : b = p
    · subst e
      rw [h] at hb
      exact ⟨_, upd_same .., .inr ⟨hlo, C, dx, fs, n, n', (Option.some.inj hb).symm, rfl⟩⟩
    · exact ⟨u, by rw [upd_ne e]; exact hb, .refl⟩, fun t => tabs_upd t (.ins h)⟩
theorem Xg.fix (e : Xg lo T H H1) (h : H a = some o) (f : Fix o) (n : ∀ ps, o ≠ .tbl ps) : H1 a = some o := by
  obtain ⟨o', h1, s⟩ := e.st a o h n
  rw [h1, s.fix f]
theorem Xg.lst (e : Xg lo T H H1) (h : H a = some (.lst xs)) : H1 a = some (.lst xs) := e.fix h (fun _ _ _ z => by cases z) fun ps z => by cases z
theorem Xg.tup (e : Xg lo T H H1) (h : H a = some (.tup xs)) : H1 a = some (.tup xs) := e.fix h (fun _ _ _ z => by cases z) fun ps z => by cases z
theorem Xg.ins {C dx : Addr} {fs : List (Str × V)} (e : Xg lo T H H1) (h : H a = some (.ins C dx fs)) (hs : ∀ fs' n, fs ≠ fs' ++ sn n) : H1 a = some (.ins C dx fs) := by
  obtain ⟨o', h1, s⟩ := e.st a _ h fun ps z => by cases z
  rcases s with s | ⟨_, C2, dx2, fs2, n, n', s1, s2⟩
  · rw [h1, s]
  · injection s1 with _ _ s1
    exact absurd s1 (hs _ _)
theorem Xg.insSeen {C dx : Addr} {fs : List (Str × V)} {n : Int} (e : Xg lo T H H1) (h : H a = some (.ins C dx (fs ++ sn n))) : ∃ n', H1 a = some (.ins C dx (fs ++ sn n')) := by
  obtain ⟨o', h1, s⟩ := e.st a _ h fun ps z => by cases z
  rcases s with s | ⟨_, C2, dx2, fs2, n2, n', s1, s2⟩
  · exact ⟨n, by rw [h1, s]⟩
  · injection s1 with e1 e2 s1
    have h4 := congrArg List.dropLast s1
    unfold sn at h4
    rw [List.dropLast_concat, List.dropLast_concat] at h4
    subst e1 e2 h4
    exact ⟨n', by rw [h1, s2]⟩
theorem Xg.seq (e : Xg lo T H H1) (h : SqL K H a xs) : SqL K H1 a xs := by
  rcases h with (h | ⟨o, h⟩) | h
  · exact .inl (.inl (e.lst h))
  · exact .inl (.inr ⟨o, e.fix h (fun _ _ _ z => by cases z) fun ps z => by cases z⟩)
  · exact .inr h
theorem Xg.seqT (e : Xg lo T H H1) (h : SqT K H a xs) : SqT K H1 a xs := by
  rcases h with (h | ⟨o, h⟩) | h
  · exact .inl (.inl (e.tup h))
  · exact .inl (.inr ⟨o, e.fix h (fun _ _ _ z => by cases z) fun ps z => by cases z⟩)
  · exact .inr h
theorem Xg.up (e : Xs T H H1) : Xt T H H1 := ⟨fun b o h n => by
  obtain ⟨o', h1, s⟩ := e.st b o h n
  rcases s with s | ⟨z, _⟩
  · exact ⟨o', h1, .inl s⟩
  · exact z.elim, e.tb⟩
/-- strict: all but tables stays -/
theorem Xg.same (e : Xs T H H1) (h : H a = some o) (n : ∀ ps, o ≠ .tbl ps) : H1 a = some o := by
  obtain ⟨o', h1, s⟩ := e.st a o h n
  rcases s with s | ⟨z, _⟩
  · rw [h1, s]
  · exact z.elim
theorem Xt.new (h : H p = none) : Xt T H (upd H p o) := Xg.new h
theorem Xt.ex (e : ExtN H H1) (t : Tabs T H1) : Xt T H H1 := Xg.ex e t
theorem Xt.refl : Xt T H H := Xg.refl
theorem Xt.trans (a : Xt T H H1) (b : Xt T H1 H2) : Xt T H H2 := Xg.trans a b
theorem Xt.lst (e : Xt T H H1) (h : H a = some (.lst xs)) : H1 a = some (.lst xs) := Xg.lst e h
theorem Xt.seq (e : Xt T H H1) (h : SqL K H a xs) : SqL K H1 a xs := Xg.seq e h
theorem Xs.new (h : H p = none) : Xs T H (upd H p o) := Xg.new h
theorem Xs.refl : Xs T H H := Xg.refl
end
/-! ### a def called with the handled exception -/
structure FnHp (P : Program) (w : World) (K : PySem.W.Frag) (mg : Str → Option Value) (base : Heap) (k : Nat) (f : Addr) (fd : FuncData) (ps : List Str) (sp : Addr × Obj → List V → Hp → VK → Prop) : Prop where
  len : ∀ p vs H Q, sp p vs H Q → vs.length = ps.length
  run : ∀ (A : Around) (outer : List Env) (s : Shared) (H : Hp) (args : Args) (us : List Value) (vs : List V) (Q : VK) (p : Addr × Obj), L2H.RoomH k A → L2H.Hot1 A p → L2H.PinOk outer H s p → Env0 P w K mg base A outer s H → BindsTo s fd args (ps.zip us) → Vals vs us → sp p vs H Q →
    codeAny (model P w) A (.call (.ref f) args) (CR CX0 outer P w H s Q E0) s
section
variable {P : Program} {w : World} {K : PySem.W.Frag} {mg : Str → Option Value} {base : Heap}
theorem fn_hp {k : Nat} {x qual : Str} {params : Arguments} {body : List Stmt} {scope : Scope} {f : Addr} {fd : FuncData} {N ps : List Str} {sp : Addr × Obj → List V → Hp → VK → Prop} (F : FunD K x qual params body scope [] [] f fd) (S : FnScope N ps scope)
    (len : ∀ p vs H Q, sp p vs H Q → vs.length = ps.length)
    (hbody : ∀ (cdv : Value) (A : Around) (outer : List Env) (s : Shared) (H : Hp) (vs : List V) (Q : VK) (p : Addr × Obj), L2H.Hot1 A p → L2H.RoomH k (A.deeper (envOfC qual scope s.heap.objs.size f cdv)) → sp p vs H Q →
      ∃ t, PSs (L2H.cxH CX0 P w K mg base N qual scope f cdv A outer s H E0 p) body t ∧ t { nx := fun _ H' => Q .non H', rt := Q } (L2.start N vs) H) :
    FnHp P w K mg base (k + 1) f fd ps sp := by
  obtain ⟨oc, od, dV, kV, doc, pm, an, cdv, ct, osl, rfl, lk, hcd, _, _⟩ := F.ex
  refine ⟨len, fun A outer s H args us vs Q p hr hot hpin e0 hb r hsp => ?_⟩
  have hl := len _ _ _ _ hsp
  have KX : K.In s.heap := e0.mod.kin.keeps fun b o e => (e0.bs b o e).1
  have lim : s.heap.NoLimit := e0.mod.nolimit.keeps fun b o e => (e0.bs b o e).1
  refine codeAny_call_function hr.depth (KX _ _ lk) rfl S.co S.gen rfl (PySem.W.codeRec_of KX hcd) (hb _ _ _ _ ?_)
  refine wpAny_newFunctionEnv_cells S.kind (fun ⟨n, v⟩ hy => ?_) fun env he s1 x => ?_
  · exact (S.par n (List.of_mem_zip hy).1).imp id fun q => ⟨q, PySem.W.cellsFrom_some _ _ _ (.inl q)⟩
  subst he
  refine ⟨lim.keeps x.toInCall.keep, codeAny_func ?_⟩
  obtain ⟨t, ht, hq⟩ := hbody cdv A outer s H vs Q p hot (hr.deeper _) hsp
  refine wpAny_mono (ht.run [] s1 (L2.start N vs) H _ (L2H.inv_startH S hpin e0 hl r x) hq) (fun fl s' hs => ?_) fun e s' hs => hs
  cases fl with
  | ret u =>
    obtain ⟨v, σ', H', J, rv, q⟩ := hs
    exact ⟨v, H', J.os, J.bare, J.base, J.hok, rv, q⟩
  | next =>
    obtain ⟨σ', H', J, q⟩ := hs
    exact ⟨V.non, H', J.os, J.bare, J.base, J.hok, rfl, q⟩
  | brk =>
    obtain ⟨_, _, _, q⟩ := hs
    exact False.elim q
  | cont =>
    obtain ⟨_, _, _, q⟩ := hs
    exact False.elim q
end
section
variable {X : Cx} {k : Nat} {f : Addr} {fd : FuncData} {ps : List Str} {sp : Addr × Obj → List V → Hp → VK → Prop} {x : Str} {q pos : Pos} {e : Expr} {es : List Expr} {t : TA}
/-- its call, p the handled exception that the context bears -/
theorem pe_callHp {p : Addr × Obj} (F : FnHp X.prog X.w X.K X.mg X.base k f fd ps sp) (hr : L2H.RoomH k X.A) (hot : L2H.Hot1 X.A p) (hp : p ∈ X.pn) (hg : Gl X x) (hm : X.mg x = some (.ref f)) (hk : PySem.W.keepIn X.K (.ref f) = true) (hb : Binds X.K fd ps [])
    (ha : PA X (e :: es) t) (hdb : (x == ("__debug__" : Str)) = false) (he : starEach (e :: es) X.env = (false, eval e X.env) :: starEach es X.env := by rfl) (hpl : (backTo pos (starEach es X.env)).any (·.1) = false := by rfl) :
    PE X (.Call (.Name x q) (e :: es) [] pos) (fun σ H Q => t σ H fun vs H1 => sp p vs H1 Q) := by
  refine ⟨fun pins s σ H Q I h => ?_⟩
  refine wpAny_Call_Name_kw (ld_glob I hg hm ?_ hdb)
  refine PySem.W.callWith_K (h₀ := X.base) I.ok.mod.kin hk (thn (ha.run pos pins s σ H _ I h) fun us s1 ⟨vs, H1, I1, r, h2⟩ => ⟨I1.kIn, ?_⟩) he hpl
  have hl : us.length = ps.length := by rw [← r.length]; exact F.len _ _ _ _ h2
  have b := hb s1 us I1.kIn (by rw [List.append_nil]; exact hl)
  rw [List.append_nil] at b
  have P1 := I1.pin p (List.mem_append_left _ hp)
  have hpin : L2H.PinOk X.stack H1 s1 p := ⟨P1.1, P1.2.1, fun hm => (List.mem_cons.mp (I1.stkSub p.1 hm)).elim P1.2.2.1 P1.2.2.2.1, P1.2.2.2.2⟩
  refine wpAny_call (codeAny_mono (F.run X.A X.stack s1 H1 ⟨us, []⟩ us vs Q p hr hot hpin I1.env0 b r h2) fun r s' hq => ?_)
  cases r with
  | error e => exact hq.elim
  | ok fl =>
    cases fl with
    | ret u => exact I1.after hq
    | next => exact hq.elim
    | brk => exact hq.elim
    | cont => exact hq.elim
/-- isinstance(e, c), e a pinned exception -/
theorem call_isP {a D : Addr} {oe : Obj} (C : ExcC X.K D) (hp : (a, oe) ∈ X.pn) (hz : Zc (.ref D) none oe) (hf : ∃ vs, oe.data = .fields vs) : CallR X (.builtin "isinstance") (rIsE X.K D a) := by
  intro pins s σ H xs us Q I r h
  obtain ⟨c, cv, b, rfl, hcv, e, q⟩ := h
  cases r with
  | cons rx rr =>
    cases rr with
    | cons rt rr =>
      cases rr
      cases rx
      have ec := hcv _ rt
      subst ec
      obtain ⟨hget, _⟩ := I.pin (a, oe) (List.mem_append_left _ hp)
      obtain ⟨vs, hv⟩ := hf
      obtain ⟨oc, od, oda, osl⟩ := oe
      obtain ⟨h1, h2⟩ := hz
      dsimp only at h1 h2 hv
      subst h1 h2 hv
      exact PySem.W.kia_one (PySem.W.handS_kitx_exc C.hg C.hk C.hs C.hd C.ha C.hn C.ht C.hm) I.kIn (H := fun h => PySem.W.InstAt h a _ D none) ⟨hget, rfl, rfl, trivial⟩ e (fun z => nomatch z) fun tk => ⟨.bl b, H, I.kept (t' := tk) fun _ _ z => z, rfl, q⟩
end
end Tw

set_option maxHeartbeats 4000000
namespace Tw
open PySem PySem.Spec PyProof.Rows L2 LamX
/-! ### what the built-in names stand for -/
section
theorem b_len : bootBuiltins "len" = some (.builtin "len") := by decide +kernel
theorem b_max : bootBuiltins "max" = some (.builtin "max") := by decide +kernel
theorem b_min : bootBuiltins "min" = some (.builtin "min") := by decide +kernel
theorem b_sum : bootBuiltins "sum" = some (.builtin "sum") := by decide +kernel
theorem b_all : bootBuiltins "all" = some (.builtin "all") := by decide +kernel
theorem b_ord : bootBuiltins "ord" = some (.builtin "ord") := by decide +kernel
theorem b_sorted : bootBuiltins "sorted" = some (.builtin "sorted") := by decide +kernel
theorem b_isinstance : bootBuiltins "isinstance" = some (.builtin "isinstance") := by decide +kernel
theorem b_int : bootBuiltins "int" = some (.type "int") := by decide +kernel
theorem b_str : bootBuiltins "str" = some (.type "str") := by decide +kernel
theorem b_bool : bootBuiltins "bool" = some (.type "bool") := by decide +kernel
theorem b_list : bootBuiltins "list" = some (.type "list") := by decide +kernel
theorem b_tuple : bootBuiltins "tuple" = some (.type "tuple") := by decide +kernel
theorem b_set : bootBuiltins "set" = some (.type "set") := by decide +kernel
theorem b_ValueError : bootBuiltins "ValueError" = some (.type "ValueError") := by decide +kernel
end
/-! ### defs by names -/
/-- the function object of the def that stands at a place -/
def fdOf (K : PySem.W.Frag) (at_ : He.Defn) : FuncData := match K.lookup (He.fAd K at_) with
  | some ⟨_, _, .func fd, _⟩ => fd
  | _ => default
theorem fdOf_of {K : PySem.W.Frag} {at_ : He.Defn} {x q : Str} {ps : Arguments} {b : List Stmt} {sc : Scope} {d : List V} {k : List (Str × V)} {fd : FuncData} (F : FunD K x q ps b sc d k (He.fAd K at_) fd) : FunD K x q ps b sc d k (He.fAd K at_) (fdOf K at_) := by
  have e : fdOf K at_ = fd := by
    obtain ⟨oc, od, dV, kV, doc, pm, an, cdv, ct, osl, e, lk, _⟩ := F.ex
    unfold fdOf
    rw [lk]
  rw [e]
  exact F
abbrev OkN (P : Program) (w : World) (K : PySem.W.Frag) (mg : Str → Option Value) (base : Heap) (at_ : He.Defn) (k : Nat) (ps : List Str) (sp : Sp) : Prop := FnOk P w K mg base (L2N.CX P w) k (He.fAd K at_) (fdOf K at_) ps sp
/-! ### exceptions -/
structure ExcF (K : PySem.W.Frag) (mg : Str → Option Value) (x : Str) : Prop where
  g : mg x = some (.ref (He.ga K x))
  f : PySem.W.excIn K (He.ga K x) He.veBase "ValueError.__new__" = true ∧ PySem.W.keepIn K (.ref (He.ga K x)) = true ∧ PySem.W.subIn K (.ref (He.ga K x)) (.type "BaseException") = some true ∧ PySem.W.typeIn K (.ref (He.ga K x)) = some (.type "type")
section
variable {P : Program} {w : World} {K : PySem.W.Frag} {mg : Str → Option Value} {base : Heap} {N : List Str} {qual : Str} {scope : Scope} {f : Addr} {cd : Value} {A : Around} {outer : List Env} {s : Shared} {H : Hp} {E : XK}
/-- in a def's body: what a callee lets out leaves -/
theorem psE (σ : L2.St) : PassesAt (L2N.CX P w) (cxOf (L2N.CX P w) P w K mg base N qual scope f cd A outer s H E) σ ((fun _ => E) σ) :=
  L2N.passAt (W := fun cls d _ H' => E cls d H') (L2N.takes_of rfl rfl rfl rfl) σ
/-- raise C('..') in a def's body -/
theorem ps_rz {x m : Str} {j : Nat} {p p2 pos pos2 : Pos} (C : ExcF K mg x) (hg : scope.names.lookup x = some .globalImplicit) (hdb : (x == ("__debug__" : Str)) = false) :
    PS (cxOf (L2N.CX P w) P w K mg base N qual scope f cd A outer s H E) (.Raise (some (.Call (.Name x p) [.Constant (.str m) j p2] [] pos)) none pos2) (fun _ _ H' => E (.ref (He.ga K x)) none H') :=
  L2N.ps_raise (W := fun cls d _ H' => E cls d H') rfl (L2N.takes_of rfl rfl rfl rfl) (L2N.pmk_own (X := cxOf (L2N.CX P w) P w K mg base N qual scope f cd A outer s H E) PySem.F.excBase_ValueError C.f.1 C.g C.f.2.1 (raises_own C.f.2.2.1 C.f.2.2.2) hg hdb)
end
section
variable {X : Cx} {A : Around} {outer : List Env} {s : Shared} {H : Hp} {E : XK} {scope : Scope} {f c' : Addr}
/-- in a lambda's body -/
theorem psL (σ : L2.St) : PassesAt (L2N.CX X.prog X.w) (lamN X A outer s H E scope f c') σ ((fun _ => E) σ) :=
  L2N.passAt (W := fun cls d _ H' => E cls d H') lamN_takes σ
/-- in a block, nothing is let out -/
theorem ps0 {X : Cx} {P : Program} {w : World} (σ : L2.St) : PassesAt (L2N.CX P w) X σ ((fun _ => E0) σ) := fun _ _ _ _ _ _ h => by
  obtain ⟨_, _, _, _, _, _, _, _, _, _, _, _, z⟩ := h
  exact z.elim
theorem psP0 {X : Cx} {P : Program} {w : World} : Passes (L2N.CX P w) X E0 := fun pins σ H s e s' I c => ps0 σ pins H s e s' I c
end
section
variable {P : Program} {w : World} {K : PySem.W.Frag} {mg : Str → Option Value} {base : Heap} {N : List Str} {qual : Str} {scope : Scope} {f : Addr} {cd : Value} {A : Around} {outer : List Env} {s : Shared} {H : Hp} {E : XK}
theorem psP : Passes (L2N.CX P w) (cxOf (L2N.CX P w) P w K mg base N qual scope f cd A outer s H E) E := fun pins σ H s e s' I c => psE σ pins H s e s' I c
end
/-! ### the seven classes -/
def seven : List Str := ["BadNumber", "BadBits", "BadPlace", "BadText", "BadCode", "BadTree", "TooMany"]
def excCB (K : PySem.W.Frag) (C : Addr) : Bool :=
  decide (PySem.W.findIn K (.ref C) "__getattribute__" = some (some (.builtin "BaseException.__getattribute__"))) && (decide (PySem.W.findIn K (.ref C) "__getattr__" = some none) && (decide (PySem.W.subIn K (.ref C) (.type "BaseException") = some true) &&
  (PySem.W.hasDictIn K C && (decide (PySem.W.findIn K (.ref C) "__class__" = some (some (.builtin "object.__class__"))) && (decide (PySem.W.specialIn K (.builtin "object.__class__") "__get__" = some (some (.builtin "getset_descriptor.__get__"))) &&
  (decide (PySem.W.takesIn K (.builtin "object.__class__") = some true) && decide (PySem.W.mroIn K C (.type "object") = some true)))))))
theorem excCB_ok {K : PySem.W.Frag} {C : Addr} (h : excCB K C = true) : ExcC K C := by
  unfold excCB at h
  simp only [Bool.and_eq_true, decide_eq_true_eq] at h
  obtain ⟨h1, h2, h3, h4, h5, h6, h7, h8⟩ := h
  exact ⟨h1, h2, h3, h4, h5, h6, h7, h8⟩
/-- the seven, told apart -/
def exB (K : PySem.W.Frag) : Bool := seven.all fun x => excCB K (He.ga K x) && (decide (PySem.W.kitOne K (.ref (He.ga K x)) (.type "ValueError") = some true) && (decide (PySem.W.exmOne K (.ref (He.ga K x)) (.ref (He.ga K "TerseError")) = some true) && seven.all fun y => decide (PySem.W.kitOne K (.ref (He.ga K x)) (.ref (He.ga K y)) = some (decide (x = y)))))
structure Bad (K : PySem.W.Frag) (x : Str) : Prop where
  c : ExcC K (He.ga K x)
  v : PySem.W.kitOne K (.ref (He.ga K x)) (.type "ValueError") = some true
  t : PySem.W.exmOne K (.ref (He.ga K x)) (.ref (He.ga K "TerseError")) = some true
  k : ∀ y ∈ seven, PySem.W.kitOne K (.ref (He.ga K x)) (.ref (He.ga K y)) = some (decide (x = y))
theorem bad_of {K : PySem.W.Frag} {x : Str} (h : exB K = true) (hx : x ∈ seven) : Bad K x := by
  have h1 := List.all_eq_true.mp h x hx
  simp only [Bool.and_eq_true, decide_eq_true_eq] at h1
  obtain ⟨h1, h2, h3, h4⟩ := h1
  exact ⟨excCB_ok h1, h2, h3, fun y hy => of_decide_eq_true (List.all_eq_true.mp h4 y hy)⟩
end Tw

set_option maxHeartbeats 0
namespace Tw
open PySem PySem.Spec PyProof.Rows L2 LamX
def top (i : Nat) : Stmt := PySem.Challenge.pw_tersewood_k90_whole_marked.main.body.getD i (.Pass ⟨0, 0, 0, 0⟩)
def dd (n : Str) (i : Nat) : He.DefD := ⟨(n, none), n, n, defArgs (top i), defBody (top i), defScope (top i), [], []⟩
def dm (C m q : Str) (i j : Nat) : He.DefD := ⟨(C, some m), m, q, defArgs (inClass (top i) j), defBody (inClass (top i) j), defScope (inClass (top i) j), [], []⟩
def fnL : List He.DefD := [dd "needs" 11, dd "in_bits" 12, dd "out_of" 13, dd "need_bits" 14, dd "pack" 15, dd "need_packed" 16, dd "number_at" 17, dm "Row" "__init__" "Row.__init__" 21 0, dm "Row" "need" "Row.need" 21 1, dm "Row" "size" "Row.size" 21 2, dm "Row" "bits" "Row.bits" 21 3, dm "Row" "look" "Row.look" 21 4, dm "Row" "bit" "Row.bit" 21 5, dm "Row" "up_to" "Row.up_to" 21 6, dm "Row" "ones" "Row.ones" 21 7, dm "Row" "noughts" "Row.noughts" 21 8, dm "Row" "ahead" "Row.ahead" 21 9, dm "Row" "found_at" "Row.found_at" 21 10, dm "Row" "one_at" "Row.one_at" 21 11, dm "Row" "nought_at" "Row.nought_at" 21 12, dm "Row" "room" "Row.room" 21 15, dd "is_sign" 28, dd "need_text" 29, dd "letters_of" 30, dd "levels" 31, dm "Text" "__init__" "Text.__init__" 32 0, dm "Text" "need" "Text.need" 32 1, dm "Text" "need_sign" "Text.need_sign" 32 2, dm "Text" "size" "Text.size" 32 3, dm "Text" "letters" "Text.letters" 32 4, dm "Text" "word_at" "Text.word_at" 32 5, dm "Text" "gone" "Text.gone" 32 6, dm "Text" "sign" "Text.sign" 32 7, dm "Text" "text" "Text.text" 32 8, dm "Text" "span_of" "Text.span_of" 32 9, dm "Text" "word_of" "Text.word_of" 32 10, dm "Text" "count" "Text.count" 32 11, dm "Text" "back" "Text.back" 32 12, dm "Text" "place" "Text.place" 32 13, dm "Text" "need_span" "Text.need_span" 32 14, dm "Text" "below" "Text.below" 32 16, dm "Text" "room" "Text.room" 32 17, dd "need_tree" 36, dm "Wood" "__init__" "Wood.__init__" 38 0, dm "Wood" "deep" "Wood.deep" 38 1, dm "Wood" "low" "Wood.low" 38 2, dm "Wood" "need" "Wood.need" 38 3, dm "Wood" "need_node" "Wood.need_node" 38 4, dm "Wood" "first_down" "Wood.first_down" 38 5, dm "Wood" "last_at" "Wood.last_at" 38 6, dm "Wood" "size" "Wood.size" 38 7, dm "Wood" "node" "Wood.node" 38 8, dm "Wood" "number" "Wood.number" 38 9, dm "Wood" "end" "Wood.end" 38 10, dm "Wood" "depth" "Wood.depth" 38 12, dm "Wood" "many" "Wood.many" 38 13, dm "Wood" "above" "Wood.above" 38 18, dm "Wood" "parent" "Wood.parent" 38 19, dm "Wood" "next_child" "Wood.next_child" 38 20, dm "Wood" "children" "Wood.children" 38 21, dm "Wood" "child" "Wood.child" 38 23, dm "Wood" "which" "Wood.which" 38 24, dm "Wood" "room" "Wood.room" 38 29, dm "Marked" "__init__" "Marked.__init__" 40 0, dm "Marked" "wood" "Marked.wood" 40 1, dm "Marked" "sign" "Marked.sign" 40 2, dm "Marked" "children_by" "Marked.children_by" 40 3, dm "Marked" "child_by" "Marked.child_by" 40 4, dm "Marked" "path" "Marked.path" 40 5, dm "Marked" "count" "Marked.count" 40 6, dm "Marked" "room" "Marked.room" 40 7, dd "_law_cell" 42, dd "_law_drawn" 43, dd "_law_word" 44, dd "_law_told" 45, dd "_law_tree" 46, dd "_law_bits_of" 47, dd "_law_model" 48, dd "_law_own" 49, dd "_law_signs" 50, dd "_law_way" 51, dd "_law_refused_right" 52, dd "law" 53]
def faL : List He.Fa := [.glo "needs", .glo "in_bits", .glo "out_of", .glo "need_bits", .glo "pack", .glo "need_packed", .glo "number_at", .glo "is_sign", .glo "need_text", .glo "letters_of", .glo "levels", .glo "need_tree", .glo "_law_cell", .glo "_law_drawn", .glo "_law_word", .glo "_law_told", .glo "_law_tree", .glo "_law_bits_of", .glo "_law_model", .glo "_law_own", .glo "_law_signs", .glo "_law_way", .glo "_law_refused_right", .glo "law", .free "range", .free "str", .free "int", .free "all", .free "len", .free "sum", .free "min", .free "ord", .free "sorted", .free "set", .free "max", .free "zip", .free "enumerate", .free "isinstance", .free "ValueError", .int "BLOCK" 32, .int "MOST_rows" 4096, .str "FIRST" " ", .str "LAST" "~", .int "BARRED" 37, .int "MOST_texts" 512, .int "LETTER_BITS" 7, .int "MOST_NODES" 1000, .int "MOST_DEEP" 200, .glo "TerseError", .exc "TerseError", .exm "TerseError" "TerseError" true, .glo "BadNumber", .exc "BadNumber", .exm "BadNumber" "TerseError" true, .glo "BadBits", .exc "BadBits", .exm "BadBits" "TerseError" true, .glo "BadPlace", .exc "BadPlace", .exm "BadPlace" "TerseError" true, .glo "BadText", .exc "BadText", .exm "BadText" "TerseError" true, .glo "BadCode", .exc "BadCode", .exm "BadCode" "TerseError" true, .glo "BadTree", .exc "BadTree", .exm "BadTree" "TerseError" true, .glo "TooMany", .exc "TooMany", .exm "TooMany" "TerseError" true, .glo "Row", .cls "Row", .mkr "Row", .noat "Row" "own", .noat "Row" "wide", .noat "Row" "whole_blocks", .noat "Row" "counts", .noat "Row" "seen", .meth "Row" "__init__", .meth "Row" "need", .meth "Row" "size", .meth "Row" "bits", .meth "Row" "look", .meth "Row" "bit", .meth "Row" "up_to", .meth "Row" "ones", .meth "Row" "noughts", .meth "Row" "ahead", .meth "Row" "found_at", .meth "Row" "one_at", .meth "Row" "nought_at", .meth "Row" "room", .glo "Text", .cls "Text", .mkr "Text", .noat "Text" "rows", .noat "Text" "signs", .noat "Text" "length", .meth "Text" "__init__", .meth "Text" "need", .meth "Text" "need_sign", .meth "Text" "size", .meth "Text" "letters", .meth "Text" "word_at", .meth "Text" "gone", .meth "Text" "sign", .meth "Text" "text", .meth "Text" "span_of", .meth "Text" "word_of", .meth "Text" "count", .meth "Text" "back", .meth "Text" "place", .meth "Text" "need_span", .meth "Text" "below", .meth "Text" "room", .glo "Wood", .cls "Wood", .mkr "Wood", .noat "Wood" "row", .noat "Wood" "wide", .noat "Wood" "lows", .meth "Wood" "__init__", .meth "Wood" "deep", .meth "Wood" "low", .meth "Wood" "need", .meth "Wood" "need_node", .meth "Wood" "first_down", .meth "Wood" "last_at", .meth "Wood" "size", .meth "Wood" "node", .meth "Wood" "number", .meth "Wood" "end", .meth "Wood" "depth", .meth "Wood" "many", .meth "Wood" "above", .meth "Wood" "parent", .meth "Wood" "next_child", .meth "Wood" "children", .meth "Wood" "child", .meth "Wood" "which", .meth "Wood" "room", .glo "Marked", .cls "Marked", .mkr "Marked", .noat "Marked" "ground", .noat "Marked" "marks", .meth "Marked" "__init__", .meth "Marked" "wood", .meth "Marked" "sign", .meth "Marked" "children_by", .meth "Marked" "child_by", .meth "Marked" "path", .meth "Marked" "count", .meth "Marked" "room"]
abbrev R : PySem.W.OpenRow := PySem.W.OpenLaw.row PySem.Challenge.rw_tersewood_k90_whole_marked
def tf : List He.Defn := [("_law_refused_right", none)]
def tK (K : PySem.W.Frag) : List (Addr × Str) := [((He.cT K ("_law_refused_right", none)).2, (envOfC "_law_refused_right" (defScope (top 52)) 0 0 .none).qual ++ "<lambda>")]
def exL (K : PySem.W.Frag) : Bool := exB K
abbrev hk : PySem.W.Hook := He.hookX 4 faL fnL [] tf exL
def ob (s : PySem.W.SharedT) : He.AlX := He.obsX 4 faL fnL [] tf exL (HandSHeadRun.getT s)
theorem ob_eq (s : PySem.W.SharedT) : ob s = hk.obs s.abs := He.obsX_eq (HandSHeadRun.getT_eq s)
def loose0 : List Str := ["__name__", "_wall", "TerseError", "BadNumber", "BadBits", "BadPlace", "BadText", "BadCode", "BadTree", "TooMany", "needs", "in_bits", "out_of", "need_bits", "pack", "need_packed", "number_at", "BLOCK", "MOST_rows", "Row"]
def loose1 : List Str := ["FIRST", "LAST", "BARRED", "MOST_texts", "LETTER_BITS", "is_sign", "need_text", "letters_of", "levels", "Text", "MOST_NODES", "MOST_DEEP", "need_tree", "Wood", "Marked", "_law_cell", "_law_drawn", "_law_word", "_law_told", "_law_tree"]
def loose2 : List Str := ["_law_bits_of", "_law_model", "_law_own", "_law_signs", "_law_way", "_law_refused_right"]
def loose : List Str := loose0 ++ loose1 ++ loose2
theorem run (w : World) : HandSHeadRun.RunEq R (PySem.W.view R.prog [53]) hk ob 30000 loose w := by
  intro os
  kernel_rfl
structure Tx (K : PySem.W.Frag) (mg : Str → Option Value) : Prop where
  hx : ∃ h, K.In h ∧ h.Ns mainGlobals mg ∧ He.SaysD faL fnL K
  more : exL K = true
section
variable {K : PySem.W.Frag} {mg : Str → Option Value}
theorem Tx.fct (T : Tx K mg) (i : Nat) {f : He.Fa} (h : faL[i]? = some f) : f.ok K = true := T.hx.choose_spec.2.2.fact i h
theorem Tx.glo (T : Tx K mg) (i : Nat) {x : Str} (h : faL[i]? = some (.glo x)) : mg x = some (.ref (He.ga K x)) := He.glo_ok T.hx.choose_spec.1 T.hx.choose_spec.2.1 (T.fct i h)
theorem Tx.free (T : Tx K mg) (i : Nat) {x : Str} (h : faL[i]? = some (.free x)) : mg x = none := He.free_ok T.hx.choose_spec.1 T.hx.choose_spec.2.1 (T.fct i h)
theorem Tx.int (T : Tx K mg) (i : Nat) {x : Str} {z : Int} (h : faL[i]? = some (.int x z)) : ∃ t, mg x = some (.int z t) := He.int_ok T.hx.choose_spec.1 T.hx.choose_spec.2.1 (T.fct i h)
theorem Tx.str (T : Tx K mg) (i : Nat) {x z : Str} (h : faL[i]? = some (.str x z)) : ∃ t, mg x = some (.str z t) := He.str_ok T.hx.choose_spec.1 T.hx.choose_spec.2.1 (T.fct i h)
theorem Tx.fd (T : Tx K mg) (i : Nat) {d : He.DefD} (h : fnL[i]? = some d) (h1 : d.dfl = []) (h2 : d.kwd = []) : FunD K d.name d.qual d.params d.body d.scope [] [] (He.fAd K d.at_) (fdOf K d.at_) := by
  obtain ⟨fd, F⟩ := T.hx.choose_spec.2.2.def_ i h
  have e1 : d.dvs K = [] := by unfold He.DefD.dvs; rw [h1]; rfl
  have e2 : d.kws K = [] := by unfold He.DefD.kws; rw [h2]; rfl
  rw [e1, e2] at F
  exact fdOf_of F
abbrev s_needs : Stmt := top 11
theorem Tx.F_needs (T : Tx K mg) : FunD K "needs" "needs" (defArgs s_needs) (defBody s_needs) (defScope s_needs) [] [] (He.fAd K ("needs", none)) (fdOf K ("needs", none)) := T.fd 0 rfl rfl rfl
theorem Tx.B_needs (T : Tx K mg) : Binds K (fdOf K ("needs", none)) ["number"] [] := T.F_needs.bindsN fun _ _ _ _ _ _ us hl => match us, hl with | [_], _ => rfl
abbrev N_needs : List Str := ["number", "found"]
theorem sc_needs : FnScope N_needs ["number"] (defScope s_needs) := ⟨rfl, rfl, rfl, by decide +kernel, rfl, by decide +kernel, by decide +kernel⟩
abbrev s_in_bits : Stmt := top 12
theorem Tx.F_in_bits (T : Tx K mg) : FunD K "in_bits" "in_bits" (defArgs s_in_bits) (defBody s_in_bits) (defScope s_in_bits) [] [] (He.fAd K ("in_bits", none)) (fdOf K ("in_bits", none)) := T.fd 1 rfl rfl rfl
theorem Tx.B_in_bits (T : Tx K mg) : Binds K (fdOf K ("in_bits", none)) ["number", "wide"] [] := T.F_in_bits.bindsN fun _ _ _ _ _ _ us hl => match us, hl with | [_, _], _ => rfl
abbrev N_in_bits : List Str := ["number", "wide", "found", "turn"]
theorem sc_in_bits : FnScope N_in_bits ["number", "wide"] (defScope s_in_bits) := ⟨rfl, rfl, rfl, by decide +kernel, rfl, by decide +kernel, by decide +kernel⟩
abbrev s_out_of : Stmt := top 13
theorem Tx.F_out_of (T : Tx K mg) : FunD K "out_of" "out_of" (defArgs s_out_of) (defBody s_out_of) (defScope s_out_of) [] [] (He.fAd K ("out_of", none)) (fdOf K ("out_of", none)) := T.fd 2 rfl rfl rfl
theorem Tx.B_out_of (T : Tx K mg) : Binds K (fdOf K ("out_of", none)) ["bits"] [] := T.F_out_of.bindsN fun _ _ _ _ _ _ us hl => match us, hl with | [_], _ => rfl
abbrev N_out_of : List Str := ["bits", "found", "sign"]
theorem sc_out_of : FnScope N_out_of ["bits"] (defScope s_out_of) := ⟨rfl, rfl, rfl, by decide +kernel, rfl, by decide +kernel, by decide +kernel⟩
abbrev s_need_bits : Stmt := top 14
theorem Tx.F_need_bits (T : Tx K mg) : FunD K "need_bits" "need_bits" (defArgs s_need_bits) (defBody s_need_bits) (defScope s_need_bits) [] [] (He.fAd K ("need_bits", none)) (fdOf K ("need_bits", none)) := T.fd 3 rfl rfl rfl
theorem Tx.B_need_bits (T : Tx K mg) : Binds K (fdOf K ("need_bits", none)) ["bits"] [] := T.F_need_bits.bindsN fun _ _ _ _ _ _ us hl => match us, hl with | [_], _ => rfl
abbrev N_need_bits : List Str := ["bits", "sign"]
theorem sc_need_bits : FnScope N_need_bits ["bits"] (defScope s_need_bits) := ⟨rfl, rfl, rfl, by decide +kernel, rfl, by decide +kernel, by decide +kernel⟩
abbrev s_pack : Stmt := top 15
theorem Tx.F_pack (T : Tx K mg) : FunD K "pack" "pack" (defArgs s_pack) (defBody s_pack) (defScope s_pack) [] [] (He.fAd K ("pack", none)) (fdOf K ("pack", none)) := T.fd 4 rfl rfl rfl
theorem Tx.B_pack (T : Tx K mg) : Binds K (fdOf K ("pack", none)) ["numbers", "wide"] [] := T.F_pack.bindsN fun _ _ _ _ _ _ us hl => match us, hl with | [_, _], _ => rfl
abbrev N_pack : List Str := ["numbers", "wide", "number"]
theorem sc_pack : FnScope N_pack ["numbers", "wide"] (defScope s_pack) := ⟨rfl, rfl, rfl, by decide +kernel, rfl, by decide +kernel, by decide +kernel⟩
abbrev s_need_packed : Stmt := top 16
theorem Tx.F_need_packed (T : Tx K mg) : FunD K "need_packed" "need_packed" (defArgs s_need_packed) (defBody s_need_packed) (defScope s_need_packed) [] [] (He.fAd K ("need_packed", none)) (fdOf K ("need_packed", none)) := T.fd 5 rfl rfl rfl
theorem Tx.B_need_packed (T : Tx K mg) : Binds K (fdOf K ("need_packed", none)) ["bits", "wide"] [] := T.F_need_packed.bindsN fun _ _ _ _ _ _ us hl => match us, hl with | [_, _], _ => rfl
abbrev N_need_packed : List Str := ["bits", "wide"]
theorem sc_need_packed : FnScope N_need_packed ["bits", "wide"] (defScope s_need_packed) := ⟨rfl, rfl, rfl, by decide +kernel, rfl, by decide +kernel, by decide +kernel⟩
abbrev s_number_at : Stmt := top 17
theorem Tx.F_number_at (T : Tx K mg) : FunD K "number_at" "number_at" (defArgs s_number_at) (defBody s_number_at) (defScope s_number_at) [] [] (He.fAd K ("number_at", none)) (fdOf K ("number_at", none)) := T.fd 6 rfl rfl rfl
theorem Tx.B_number_at (T : Tx K mg) : Binds K (fdOf K ("number_at", none)) ["bits", "wide", "place"] [] := T.F_number_at.bindsN fun _ _ _ _ _ _ us hl => match us, hl with | [_, _, _], _ => rfl
abbrev N_number_at : List Str := ["bits", "wide", "place"]
theorem sc_number_at : FnScope N_number_at ["bits", "wide", "place"] (defScope s_number_at) := ⟨rfl, rfl, rfl, by decide +kernel, rfl, by decide +kernel, by decide +kernel⟩
abbrev s_Row_init : Stmt := inClass (top 21) 0
theorem Tx.F_Row_init (T : Tx K mg) : FunD K "__init__" "Row.__init__" (defArgs s_Row_init) (defBody s_Row_init) (defScope s_Row_init) [] [] (He.fAd K ("Row", some "__init__")) (fdOf K ("Row", some "__init__")) := T.fd 7 rfl rfl rfl
theorem Tx.B_Row_init (T : Tx K mg) : Binds K (fdOf K ("Row", some "__init__")) ["self", "bits"] [] := T.F_Row_init.bindsN fun _ _ _ _ _ _ us hl => match us, hl with | [_, _], _ => rfl
abbrev N_Row_init : List Str := ["self", "bits", "counts", "so_far", "block"]
theorem sc_Row_init : FnScope N_Row_init ["self", "bits"] (defScope s_Row_init) := ⟨rfl, rfl, rfl, by decide +kernel, rfl, by decide +kernel, by decide +kernel⟩
abbrev s_Row_need : Stmt := inClass (top 21) 1
theorem Tx.F_Row_need (T : Tx K mg) : FunD K "need" "Row.need" (defArgs s_Row_need) (defBody s_Row_need) (defScope s_Row_need) [] [] (He.fAd K ("Row", some "need")) (fdOf K ("Row", some "need")) := T.fd 8 rfl rfl rfl
theorem Tx.B_Row_need (T : Tx K mg) : Binds K (fdOf K ("Row", some "need")) ["self", "good"] [] := T.F_Row_need.bindsN fun _ _ _ _ _ _ us hl => match us, hl with | [_, _], _ => rfl
abbrev N_Row_need : List Str := ["self", "good"]
theorem sc_Row_need : FnScope N_Row_need ["self", "good"] (defScope s_Row_need) := ⟨rfl, rfl, rfl, by decide +kernel, rfl, by decide +kernel, by decide +kernel⟩
abbrev s_Row_size : Stmt := inClass (top 21) 2
theorem Tx.F_Row_size (T : Tx K mg) : FunD K "size" "Row.size" (defArgs s_Row_size) (defBody s_Row_size) (defScope s_Row_size) [] [] (He.fAd K ("Row", some "size")) (fdOf K ("Row", some "size")) := T.fd 9 rfl rfl rfl
theorem Tx.B_Row_size (T : Tx K mg) : Binds K (fdOf K ("Row", some "size")) ["self"] [] := T.F_Row_size.bindsN fun _ _ _ _ _ _ us hl => match us, hl with | [_], _ => rfl
abbrev N_Row_size : List Str := ["self"]
theorem sc_Row_size : FnScope N_Row_size ["self"] (defScope s_Row_size) := ⟨rfl, rfl, rfl, by decide +kernel, rfl, by decide +kernel, by decide +kernel⟩
abbrev s_Row_bits : Stmt := inClass (top 21) 3
theorem Tx.F_Row_bits (T : Tx K mg) : FunD K "bits" "Row.bits" (defArgs s_Row_bits) (defBody s_Row_bits) (defScope s_Row_bits) [] [] (He.fAd K ("Row", some "bits")) (fdOf K ("Row", some "bits")) := T.fd 10 rfl rfl rfl
theorem Tx.B_Row_bits (T : Tx K mg) : Binds K (fdOf K ("Row", some "bits")) ["self"] [] := T.F_Row_bits.bindsN fun _ _ _ _ _ _ us hl => match us, hl with | [_], _ => rfl
abbrev N_Row_bits : List Str := ["self"]
theorem sc_Row_bits : FnScope N_Row_bits ["self"] (defScope s_Row_bits) := ⟨rfl, rfl, rfl, by decide +kernel, rfl, by decide +kernel, by decide +kernel⟩
abbrev s_Row_look : Stmt := inClass (top 21) 4
theorem Tx.F_Row_look (T : Tx K mg) : FunD K "look" "Row.look" (defArgs s_Row_look) (defBody s_Row_look) (defScope s_Row_look) [] [] (He.fAd K ("Row", some "look")) (fdOf K ("Row", some "look")) := T.fd 11 rfl rfl rfl
theorem Tx.B_Row_look (T : Tx K mg) : Binds K (fdOf K ("Row", some "look")) ["self", "place"] [] := T.F_Row_look.bindsN fun _ _ _ _ _ _ us hl => match us, hl with | [_, _], _ => rfl
abbrev N_Row_look : List Str := ["self", "place"]
theorem sc_Row_look : FnScope N_Row_look ["self", "place"] (defScope s_Row_look) := ⟨rfl, rfl, rfl, by decide +kernel, rfl, by decide +kernel, by decide +kernel⟩
abbrev s_Row_bit : Stmt := inClass (top 21) 5
theorem Tx.F_Row_bit (T : Tx K mg) : FunD K "bit" "Row.bit" (defArgs s_Row_bit) (defBody s_Row_bit) (defScope s_Row_bit) [] [] (He.fAd K ("Row", some "bit")) (fdOf K ("Row", some "bit")) := T.fd 12 rfl rfl rfl
theorem Tx.B_Row_bit (T : Tx K mg) : Binds K (fdOf K ("Row", some "bit")) ["self", "place"] [] := T.F_Row_bit.bindsN fun _ _ _ _ _ _ us hl => match us, hl with | [_, _], _ => rfl
abbrev N_Row_bit : List Str := ["self", "place"]
theorem sc_Row_bit : FnScope N_Row_bit ["self", "place"] (defScope s_Row_bit) := ⟨rfl, rfl, rfl, by decide +kernel, rfl, by decide +kernel, by decide +kernel⟩
abbrev s_Row_up_to : Stmt := inClass (top 21) 6
theorem Tx.F_Row_up_to (T : Tx K mg) : FunD K "up_to" "Row.up_to" (defArgs s_Row_up_to) (defBody s_Row_up_to) (defScope s_Row_up_to) [] [] (He.fAd K ("Row", some "up_to")) (fdOf K ("Row", some "up_to")) := T.fd 13 rfl rfl rfl
theorem Tx.B_Row_up_to (T : Tx K mg) : Binds K (fdOf K ("Row", some "up_to")) ["self", "block"] [] := T.F_Row_up_to.bindsN fun _ _ _ _ _ _ us hl => match us, hl with | [_, _], _ => rfl
abbrev N_Row_up_to : List Str := ["self", "block"]
theorem sc_Row_up_to : FnScope N_Row_up_to ["self", "block"] (defScope s_Row_up_to) := ⟨rfl, rfl, rfl, by decide +kernel, rfl, by decide +kernel, by decide +kernel⟩
abbrev s_Row_ones : Stmt := inClass (top 21) 7
theorem Tx.F_Row_ones (T : Tx K mg) : FunD K "ones" "Row.ones" (defArgs s_Row_ones) (defBody s_Row_ones) (defScope s_Row_ones) [] [] (He.fAd K ("Row", some "ones")) (fdOf K ("Row", some "ones")) := T.fd 14 rfl rfl rfl
theorem Tx.B_Row_ones (T : Tx K mg) : Binds K (fdOf K ("Row", some "ones")) ["self", "place"] [] := T.F_Row_ones.bindsN fun _ _ _ _ _ _ us hl => match us, hl with | [_, _], _ => rfl
abbrev N_Row_ones : List Str := ["self", "place", "block", "at"]
theorem sc_Row_ones : FnScope N_Row_ones ["self", "place"] (defScope s_Row_ones) := ⟨rfl, rfl, rfl, by decide +kernel, rfl, by decide +kernel, by decide +kernel⟩
abbrev s_Row_noughts : Stmt := inClass (top 21) 8
theorem Tx.F_Row_noughts (T : Tx K mg) : FunD K "noughts" "Row.noughts" (defArgs s_Row_noughts) (defBody s_Row_noughts) (defScope s_Row_noughts) [] [] (He.fAd K ("Row", some "noughts")) (fdOf K ("Row", some "noughts")) := T.fd 15 rfl rfl rfl
theorem Tx.B_Row_noughts (T : Tx K mg) : Binds K (fdOf K ("Row", some "noughts")) ["self", "place"] [] := T.F_Row_noughts.bindsN fun _ _ _ _ _ _ us hl => match us, hl with | [_, _], _ => rfl
abbrev N_Row_noughts : List Str := ["self", "place"]
theorem sc_Row_noughts : FnScope N_Row_noughts ["self", "place"] (defScope s_Row_noughts) := ⟨rfl, rfl, rfl, by decide +kernel, rfl, by decide +kernel, by decide +kernel⟩
abbrev s_Row_ahead : Stmt := inClass (top 21) 9
theorem Tx.F_Row_ahead (T : Tx K mg) : FunD K "ahead" "Row.ahead" (defArgs s_Row_ahead) (defBody s_Row_ahead) (defScope s_Row_ahead) [] [] (He.fAd K ("Row", some "ahead")) (fdOf K ("Row", some "ahead")) := T.fd 16 rfl rfl rfl
theorem Tx.B_Row_ahead (T : Tx K mg) : Binds K (fdOf K ("Row", some "ahead")) ["self", "block", "sign"] [] := T.F_Row_ahead.bindsN fun _ _ _ _ _ _ us hl => match us, hl with | [_, _, _], _ => rfl
abbrev N_Row_ahead : List Str := ["self", "block", "sign"]
theorem sc_Row_ahead : FnScope N_Row_ahead ["self", "block", "sign"] (defScope s_Row_ahead) := ⟨rfl, rfl, rfl, by decide +kernel, rfl, by decide +kernel, by decide +kernel⟩
abbrev s_Row_found_at : Stmt := inClass (top 21) 10
theorem Tx.F_Row_found_at (T : Tx K mg) : FunD K "found_at" "Row.found_at" (defArgs s_Row_found_at) (defBody s_Row_found_at) (defScope s_Row_found_at) [] [] (He.fAd K ("Row", some "found_at")) (fdOf K ("Row", some "found_at")) := T.fd 17 rfl rfl rfl
theorem Tx.B_Row_found_at (T : Tx K mg) : Binds K (fdOf K ("Row", some "found_at")) ["self", "number", "sign"] [] := T.F_Row_found_at.bindsN fun _ _ _ _ _ _ us hl => match us, hl with | [_, _, _], _ => rfl
abbrev N_Row_found_at : List Str := ["self", "number", "sign", "low", "high", "middle", "left", "place"]
theorem sc_Row_found_at : FnScope N_Row_found_at ["self", "number", "sign"] (defScope s_Row_found_at) := ⟨rfl, rfl, rfl, by decide +kernel, rfl, by decide +kernel, by decide +kernel⟩
abbrev s_Row_one_at : Stmt := inClass (top 21) 11
theorem Tx.F_Row_one_at (T : Tx K mg) : FunD K "one_at" "Row.one_at" (defArgs s_Row_one_at) (defBody s_Row_one_at) (defScope s_Row_one_at) [] [] (He.fAd K ("Row", some "one_at")) (fdOf K ("Row", some "one_at")) := T.fd 18 rfl rfl rfl
theorem Tx.B_Row_one_at (T : Tx K mg) : Binds K (fdOf K ("Row", some "one_at")) ["self", "number"] [] := T.F_Row_one_at.bindsN fun _ _ _ _ _ _ us hl => match us, hl with | [_, _], _ => rfl
abbrev N_Row_one_at : List Str := ["self", "number"]
theorem sc_Row_one_at : FnScope N_Row_one_at ["self", "number"] (defScope s_Row_one_at) := ⟨rfl, rfl, rfl, by decide +kernel, rfl, by decide +kernel, by decide +kernel⟩
abbrev s_Row_nought_at : Stmt := inClass (top 21) 12
theorem Tx.F_Row_nought_at (T : Tx K mg) : FunD K "nought_at" "Row.nought_at" (defArgs s_Row_nought_at) (defBody s_Row_nought_at) (defScope s_Row_nought_at) [] [] (He.fAd K ("Row", some "nought_at")) (fdOf K ("Row", some "nought_at")) := T.fd 19 rfl rfl rfl
theorem Tx.B_Row_nought_at (T : Tx K mg) : Binds K (fdOf K ("Row", some "nought_at")) ["self", "number"] [] := T.F_Row_nought_at.bindsN fun _ _ _ _ _ _ us hl => match us, hl with | [_, _], _ => rfl
abbrev N_Row_nought_at : List Str := ["self", "number"]
theorem sc_Row_nought_at : FnScope N_Row_nought_at ["self", "number"] (defScope s_Row_nought_at) := ⟨rfl, rfl, rfl, by decide +kernel, rfl, by decide +kernel, by decide +kernel⟩
abbrev s_Row_room : Stmt := inClass (top 21) 15
theorem Tx.F_Row_room (T : Tx K mg) : FunD K "room" "Row.room" (defArgs s_Row_room) (defBody s_Row_room) (defScope s_Row_room) [] [] (He.fAd K ("Row", some "room")) (fdOf K ("Row", some "room")) := T.fd 20 rfl rfl rfl
theorem Tx.B_Row_room (T : Tx K mg) : Binds K (fdOf K ("Row", some "room")) ["self"] [] := T.F_Row_room.bindsN fun _ _ _ _ _ _ us hl => match us, hl with | [_], _ => rfl
abbrev N_Row_room : List Str := ["self"]
theorem sc_Row_room : FnScope N_Row_room ["self"] (defScope s_Row_room) := ⟨rfl, rfl, rfl, by decide +kernel, rfl, by decide +kernel, by decide +kernel⟩
abbrev s_is_sign : Stmt := top 28
theorem Tx.F_is_sign (T : Tx K mg) : FunD K "is_sign" "is_sign" (defArgs s_is_sign) (defBody s_is_sign) (defScope s_is_sign) [] [] (He.fAd K ("is_sign", none)) (fdOf K ("is_sign", none)) := T.fd 21 rfl rfl rfl
theorem Tx.B_is_sign (T : Tx K mg) : Binds K (fdOf K ("is_sign", none)) ["thing"] [] := T.F_is_sign.bindsN fun _ _ _ _ _ _ us hl => match us, hl with | [_], _ => rfl
abbrev N_is_sign : List Str := ["thing"]
theorem sc_is_sign : FnScope N_is_sign ["thing"] (defScope s_is_sign) := ⟨rfl, rfl, rfl, by decide +kernel, rfl, by decide +kernel, by decide +kernel⟩
abbrev s_need_text : Stmt := top 29
theorem Tx.F_need_text (T : Tx K mg) : FunD K "need_text" "need_text" (defArgs s_need_text) (defBody s_need_text) (defScope s_need_text) [] [] (He.fAd K ("need_text", none)) (fdOf K ("need_text", none)) := T.fd 22 rfl rfl rfl
theorem Tx.B_need_text (T : Tx K mg) : Binds K (fdOf K ("need_text", none)) ["text"] [] := T.F_need_text.bindsN fun _ _ _ _ _ _ us hl => match us, hl with | [_], _ => rfl
abbrev N_need_text : List Str := ["text", "sign"]
theorem sc_need_text : FnScope N_need_text ["text"] (defScope s_need_text) := ⟨rfl, rfl, rfl, by decide +kernel, rfl, by decide +kernel, by decide +kernel⟩
abbrev s_letters_of : Stmt := top 30
theorem Tx.F_letters_of (T : Tx K mg) : FunD K "letters_of" "letters_of" (defArgs s_letters_of) (defBody s_letters_of) (defScope s_letters_of) [] [] (He.fAd K ("letters_of", none)) (fdOf K ("letters_of", none)) := T.fd 23 rfl rfl rfl
theorem Tx.B_letters_of (T : Tx K mg) : Binds K (fdOf K ("letters_of", none)) ["text"] [] := T.F_letters_of.bindsN fun _ _ _ _ _ _ us hl => match us, hl with | [_], _ => rfl
abbrev N_letters_of : List Str := ["text"]
theorem sc_letters_of : FnScope N_letters_of ["text"] (defScope s_letters_of) := ⟨rfl, rfl, rfl, by decide +kernel, rfl, by decide +kernel, by decide +kernel⟩
abbrev s_levels : Stmt := top 31
theorem Tx.F_levels (T : Tx K mg) : FunD K "levels" "levels" (defArgs s_levels) (defBody s_levels) (defScope s_levels) [] [] (He.fAd K ("levels", none)) (fdOf K ("levels", none)) := T.fd 24 rfl rfl rfl
theorem Tx.B_levels (T : Tx K mg) : Binds K (fdOf K ("levels", none)) ["text"] [] := T.F_levels.bindsN fun _ _ _ _ _ _ us hl => match us, hl with | [_], _ => rfl
abbrev N_levels : List Str := ["text", "letters", "wide", "words", "sign", "found", "level", "word"]
theorem sc_levels : FnScope N_levels ["text"] (defScope s_levels) := ⟨rfl, rfl, rfl, by decide +kernel, rfl, by decide +kernel, by decide +kernel⟩
abbrev s_Text_init : Stmt := inClass (top 32) 0
theorem Tx.F_Text_init (T : Tx K mg) : FunD K "__init__" "Text.__init__" (defArgs s_Text_init) (defBody s_Text_init) (defScope s_Text_init) [] [] (He.fAd K ("Text", some "__init__")) (fdOf K ("Text", some "__init__")) := T.fd 25 rfl rfl rfl
theorem Tx.B_Text_init (T : Tx K mg) : Binds K (fdOf K ("Text", some "__init__")) ["self", "text"] [] := T.F_Text_init.bindsN fun _ _ _ _ _ _ us hl => match us, hl with | [_, _], _ => rfl
abbrev N_Text_init : List Str := ["self", "text", "bits"]
theorem sc_Text_init : FnScope N_Text_init ["self", "text"] (defScope s_Text_init) := ⟨rfl, rfl, rfl, by decide +kernel, rfl, by decide +kernel, by decide +kernel⟩
abbrev s_Text_need : Stmt := inClass (top 32) 1
theorem Tx.F_Text_need (T : Tx K mg) : FunD K "need" "Text.need" (defArgs s_Text_need) (defBody s_Text_need) (defScope s_Text_need) [] [] (He.fAd K ("Text", some "need")) (fdOf K ("Text", some "need")) := T.fd 26 rfl rfl rfl
theorem Tx.B_Text_need (T : Tx K mg) : Binds K (fdOf K ("Text", some "need")) ["self", "good"] [] := T.F_Text_need.bindsN fun _ _ _ _ _ _ us hl => match us, hl with | [_, _], _ => rfl
abbrev N_Text_need : List Str := ["self", "good"]
theorem sc_Text_need : FnScope N_Text_need ["self", "good"] (defScope s_Text_need) := ⟨rfl, rfl, rfl, by decide +kernel, rfl, by decide +kernel, by decide +kernel⟩
abbrev s_Text_need_sign : Stmt := inClass (top 32) 2
theorem Tx.F_Text_need_sign (T : Tx K mg) : FunD K "need_sign" "Text.need_sign" (defArgs s_Text_need_sign) (defBody s_Text_need_sign) (defScope s_Text_need_sign) [] [] (He.fAd K ("Text", some "need_sign")) (fdOf K ("Text", some "need_sign")) := T.fd 27 rfl rfl rfl
theorem Tx.B_Text_need_sign (T : Tx K mg) : Binds K (fdOf K ("Text", some "need_sign")) ["self", "sign"] [] := T.F_Text_need_sign.bindsN fun _ _ _ _ _ _ us hl => match us, hl with | [_, _], _ => rfl
abbrev N_Text_need_sign : List Str := ["self", "sign"]
theorem sc_Text_need_sign : FnScope N_Text_need_sign ["self", "sign"] (defScope s_Text_need_sign) := ⟨rfl, rfl, rfl, by decide +kernel, rfl, by decide +kernel, by decide +kernel⟩
abbrev s_Text_size : Stmt := inClass (top 32) 3
theorem Tx.F_Text_size (T : Tx K mg) : FunD K "size" "Text.size" (defArgs s_Text_size) (defBody s_Text_size) (defScope s_Text_size) [] [] (He.fAd K ("Text", some "size")) (fdOf K ("Text", some "size")) := T.fd 28 rfl rfl rfl
theorem Tx.B_Text_size (T : Tx K mg) : Binds K (fdOf K ("Text", some "size")) ["self"] [] := T.F_Text_size.bindsN fun _ _ _ _ _ _ us hl => match us, hl with | [_], _ => rfl
abbrev N_Text_size : List Str := ["self"]
theorem sc_Text_size : FnScope N_Text_size ["self"] (defScope s_Text_size) := ⟨rfl, rfl, rfl, by decide +kernel, rfl, by decide +kernel, by decide +kernel⟩
abbrev s_Text_letters : Stmt := inClass (top 32) 4
theorem Tx.F_Text_letters (T : Tx K mg) : FunD K "letters" "Text.letters" (defArgs s_Text_letters) (defBody s_Text_letters) (defScope s_Text_letters) [] [] (He.fAd K ("Text", some "letters")) (fdOf K ("Text", some "letters")) := T.fd 29 rfl rfl rfl
theorem Tx.B_Text_letters (T : Tx K mg) : Binds K (fdOf K ("Text", some "letters")) ["self"] [] := T.F_Text_letters.bindsN fun _ _ _ _ _ _ us hl => match us, hl with | [_], _ => rfl
abbrev N_Text_letters : List Str := ["self"]
theorem sc_Text_letters : FnScope N_Text_letters ["self"] (defScope s_Text_letters) := ⟨rfl, rfl, rfl, by decide +kernel, rfl, by decide +kernel, by decide +kernel⟩
abbrev s_Text_word_at : Stmt := inClass (top 32) 5
theorem Tx.F_Text_word_at (T : Tx K mg) : FunD K "word_at" "Text.word_at" (defArgs s_Text_word_at) (defBody s_Text_word_at) (defScope s_Text_word_at) [] [] (He.fAd K ("Text", some "word_at")) (fdOf K ("Text", some "word_at")) := T.fd 30 rfl rfl rfl
theorem Tx.B_Text_word_at (T : Tx K mg) : Binds K (fdOf K ("Text", some "word_at")) ["self", "place"] [] := T.F_Text_word_at.bindsN fun _ _ _ _ _ _ us hl => match us, hl with | [_, _], _ => rfl
abbrev N_Text_word_at : List Str := ["self", "place", "found", "row", "bit"]
theorem sc_Text_word_at : FnScope N_Text_word_at ["self", "place"] (defScope s_Text_word_at) := ⟨rfl, rfl, rfl, by decide +kernel, rfl, by decide +kernel, by decide +kernel⟩
abbrev s_Text_gone : Stmt := inClass (top 32) 6
theorem Tx.F_Text_gone (T : Tx K mg) : FunD K "gone" "Text.gone" (defArgs s_Text_gone) (defBody s_Text_gone) (defScope s_Text_gone) [] [] (He.fAd K ("Text", some "gone")) (fdOf K ("Text", some "gone")) := T.fd 31 rfl rfl rfl
theorem Tx.B_Text_gone (T : Tx K mg) : Binds K (fdOf K ("Text", some "gone")) ["self", "row", "place", "bit"] [] := T.F_Text_gone.bindsN fun _ _ _ _ _ _ us hl => match us, hl with | [_, _, _, _], _ => rfl
abbrev N_Text_gone : List Str := ["self", "row", "place", "bit"]
theorem sc_Text_gone : FnScope N_Text_gone ["self", "row", "place", "bit"] (defScope s_Text_gone) := ⟨rfl, rfl, rfl, by decide +kernel, rfl, by decide +kernel, by decide +kernel⟩
abbrev s_Text_sign : Stmt := inClass (top 32) 7
theorem Tx.F_Text_sign (T : Tx K mg) : FunD K "sign" "Text.sign" (defArgs s_Text_sign) (defBody s_Text_sign) (defScope s_Text_sign) [] [] (He.fAd K ("Text", some "sign")) (fdOf K ("Text", some "sign")) := T.fd 32 rfl rfl rfl
theorem Tx.B_Text_sign (T : Tx K mg) : Binds K (fdOf K ("Text", some "sign")) ["self", "place"] [] := T.F_Text_sign.bindsN fun _ _ _ _ _ _ us hl => match us, hl with | [_, _], _ => rfl
abbrev N_Text_sign : List Str := ["self", "place"]
theorem sc_Text_sign : FnScope N_Text_sign ["self", "place"] (defScope s_Text_sign) := ⟨rfl, rfl, rfl, by decide +kernel, rfl, by decide +kernel, by decide +kernel⟩
abbrev s_Text_text : Stmt := inClass (top 32) 8
theorem Tx.F_Text_text (T : Tx K mg) : FunD K "text" "Text.text" (defArgs s_Text_text) (defBody s_Text_text) (defScope s_Text_text) [] [] (He.fAd K ("Text", some "text")) (fdOf K ("Text", some "text")) := T.fd 33 rfl rfl rfl
theorem Tx.B_Text_text (T : Tx K mg) : Binds K (fdOf K ("Text", some "text")) ["self"] [] := T.F_Text_text.bindsN fun _ _ _ _ _ _ us hl => match us, hl with | [_], _ => rfl
abbrev N_Text_text : List Str := ["self", "place"]
theorem sc_Text_text : FnScope N_Text_text ["self"] (defScope s_Text_text) := ⟨rfl, rfl, rfl, by decide +kernel, rfl, by decide +kernel, by decide +kernel⟩
abbrev s_Text_span_of : Stmt := inClass (top 32) 9
theorem Tx.F_Text_span_of (T : Tx K mg) : FunD K "span_of" "Text.span_of" (defArgs s_Text_span_of) (defBody s_Text_span_of) (defScope s_Text_span_of) [] [] (He.fAd K ("Text", some "span_of")) (fdOf K ("Text", some "span_of")) := T.fd 34 rfl rfl rfl
theorem Tx.B_Text_span_of (T : Tx K mg) : Binds K (fdOf K ("Text", some "span_of")) ["self", "word", "first", "end"] [] := T.F_Text_span_of.bindsN fun _ _ _ _ _ _ us hl => match us, hl with | [_, _, _, _], _ => rfl
abbrev N_Text_span_of : List Str := ["self", "word", "first", "end", "row", "sign"]
theorem sc_Text_span_of : FnScope N_Text_span_of ["self", "word", "first", "end"] (defScope s_Text_span_of) := ⟨rfl, rfl, rfl, by decide +kernel, rfl, by decide +kernel, by decide +kernel⟩
abbrev s_Text_word_of : Stmt := inClass (top 32) 10
theorem Tx.F_Text_word_of (T : Tx K mg) : FunD K "word_of" "Text.word_of" (defArgs s_Text_word_of) (defBody s_Text_word_of) (defScope s_Text_word_of) [] [] (He.fAd K ("Text", some "word_of")) (fdOf K ("Text", some "word_of")) := T.fd 35 rfl rfl rfl
theorem Tx.B_Text_word_of (T : Tx K mg) : Binds K (fdOf K ("Text", some "word_of")) ["self", "sign"] [] := T.F_Text_word_of.bindsN fun _ _ _ _ _ _ us hl => match us, hl with | [_, _], _ => rfl
abbrev N_Text_word_of : List Str := ["self", "sign"]
theorem sc_Text_word_of : FnScope N_Text_word_of ["self", "sign"] (defScope s_Text_word_of) := ⟨rfl, rfl, rfl, by decide +kernel, rfl, by decide +kernel, by decide +kernel⟩
abbrev s_Text_count : Stmt := inClass (top 32) 11
theorem Tx.F_Text_count (T : Tx K mg) : FunD K "count" "Text.count" (defArgs s_Text_count) (defBody s_Text_count) (defScope s_Text_count) [] [] (He.fAd K ("Text", some "count")) (fdOf K ("Text", some "count")) := T.fd 36 rfl rfl rfl
theorem Tx.B_Text_count (T : Tx K mg) : Binds K (fdOf K ("Text", some "count")) ["self", "sign", "place"] [] := T.F_Text_count.bindsN fun _ _ _ _ _ _ us hl => match us, hl with | [_, _, _], _ => rfl
abbrev N_Text_count : List Str := ["self", "sign", "place", "first", "end"]
theorem sc_Text_count : FnScope N_Text_count ["self", "sign", "place"] (defScope s_Text_count) := ⟨rfl, rfl, rfl, by decide +kernel, rfl, by decide +kernel, by decide +kernel⟩
abbrev s_Text_back : Stmt := inClass (top 32) 12
theorem Tx.F_Text_back (T : Tx K mg) : FunD K "back" "Text.back" (defArgs s_Text_back) (defBody s_Text_back) (defScope s_Text_back) [] [] (He.fAd K ("Text", some "back")) (fdOf K ("Text", some "back")) := T.fd 37 rfl rfl rfl
theorem Tx.B_Text_back (T : Tx K mg) : Binds K (fdOf K ("Text", some "back")) ["self", "row", "place", "bit"] [] := T.F_Text_back.bindsN fun _ _ _ _ _ _ us hl => match us, hl with | [_, _, _, _], _ => rfl
abbrev N_Text_back : List Str := ["self", "row", "place", "bit"]
theorem sc_Text_back : FnScope N_Text_back ["self", "row", "place", "bit"] (defScope s_Text_back) := ⟨rfl, rfl, rfl, by decide +kernel, rfl, by decide +kernel, by decide +kernel⟩
abbrev s_Text_place : Stmt := inClass (top 32) 13
theorem Tx.F_Text_place (T : Tx K mg) : FunD K "place" "Text.place" (defArgs s_Text_place) (defBody s_Text_place) (defScope s_Text_place) [] [] (He.fAd K ("Text", some "place")) (fdOf K ("Text", some "place")) := T.fd 38 rfl rfl rfl
theorem Tx.B_Text_place (T : Tx K mg) : Binds K (fdOf K ("Text", some "place")) ["self", "sign", "number"] [] := T.F_Text_place.bindsN fun _ _ _ _ _ _ us hl => match us, hl with | [_, _, _], _ => rfl
abbrev N_Text_place : List Str := ["self", "sign", "number", "word", "at", "row", "one"]
theorem sc_Text_place : FnScope N_Text_place ["self", "sign", "number"] (defScope s_Text_place) := ⟨rfl, rfl, rfl, by decide +kernel, rfl, by decide +kernel, by decide +kernel⟩
abbrev s_Text_need_span : Stmt := inClass (top 32) 14
theorem Tx.F_Text_need_span (T : Tx K mg) : FunD K "need_span" "Text.need_span" (defArgs s_Text_need_span) (defBody s_Text_need_span) (defScope s_Text_need_span) [] [] (He.fAd K ("Text", some "need_span")) (fdOf K ("Text", some "need_span")) := T.fd 39 rfl rfl rfl
theorem Tx.B_Text_need_span (T : Tx K mg) : Binds K (fdOf K ("Text", some "need_span")) ["self", "first", "end"] [] := T.F_Text_need_span.bindsN fun _ _ _ _ _ _ us hl => match us, hl with | [_, _, _], _ => rfl
abbrev N_Text_need_span : List Str := ["self", "first", "end"]
theorem sc_Text_need_span : FnScope N_Text_need_span ["self", "first", "end"] (defScope s_Text_need_span) := ⟨rfl, rfl, rfl, by decide +kernel, rfl, by decide +kernel, by decide +kernel⟩
abbrev s_Text_below : Stmt := inClass (top 32) 16
theorem Tx.F_Text_below (T : Tx K mg) : FunD K "below" "Text.below" (defArgs s_Text_below) (defBody s_Text_below) (defScope s_Text_below) [] [] (He.fAd K ("Text", some "below")) (fdOf K ("Text", some "below")) := T.fd 40 rfl rfl rfl
theorem Tx.B_Text_below (T : Tx K mg) : Binds K (fdOf K ("Text", some "below")) ["self", "first", "end", "sign"] [] := T.F_Text_below.bindsN fun _ _ _ _ _ _ us hl => match us, hl with | [_, _, _, _], _ => rfl
abbrev N_Text_below : List Str := ["self", "first", "end", "sign", "at", "one", "found", "row"]
theorem sc_Text_below : FnScope N_Text_below ["self", "first", "end", "sign"] (defScope s_Text_below) := ⟨rfl, rfl, rfl, by decide +kernel, rfl, by decide +kernel, by decide +kernel⟩
abbrev s_Text_room : Stmt := inClass (top 32) 17
theorem Tx.F_Text_room (T : Tx K mg) : FunD K "room" "Text.room" (defArgs s_Text_room) (defBody s_Text_room) (defScope s_Text_room) [] [] (He.fAd K ("Text", some "room")) (fdOf K ("Text", some "room")) := T.fd 41 rfl rfl rfl
theorem Tx.B_Text_room (T : Tx K mg) : Binds K (fdOf K ("Text", some "room")) ["self"] [] := T.F_Text_room.bindsN fun _ _ _ _ _ _ us hl => match us, hl with | [_], _ => rfl
abbrev N_Text_room : List Str := ["self", "row"]
theorem sc_Text_room : FnScope N_Text_room ["self"] (defScope s_Text_room) := ⟨rfl, rfl, rfl, by decide +kernel, rfl, by decide +kernel, by decide +kernel⟩
abbrev s_need_tree : Stmt := top 36
theorem Tx.F_need_tree (T : Tx K mg) : FunD K "need_tree" "need_tree" (defArgs s_need_tree) (defBody s_need_tree) (defScope s_need_tree) [] [] (He.fAd K ("need_tree", none)) (fdOf K ("need_tree", none)) := T.fd 42 rfl rfl rfl
theorem Tx.B_need_tree (T : Tx K mg) : Binds K (fdOf K ("need_tree", none)) ["bits"] [] := T.F_need_tree.bindsN fun _ _ _ _ _ _ us hl => match us, hl with | [_], _ => rfl
abbrev N_need_tree : List Str := ["bits", "deep", "at", "bit"]
theorem sc_need_tree : FnScope N_need_tree ["bits"] (defScope s_need_tree) := ⟨rfl, rfl, rfl, by decide +kernel, rfl, by decide +kernel, by decide +kernel⟩
abbrev s_Wood_init : Stmt := inClass (top 38) 0
theorem Tx.F_Wood_init (T : Tx K mg) : FunD K "__init__" "Wood.__init__" (defArgs s_Wood_init) (defBody s_Wood_init) (defScope s_Wood_init) [] [] (He.fAd K ("Wood", some "__init__")) (fdOf K ("Wood", some "__init__")) := T.fd 43 rfl rfl rfl
theorem Tx.B_Wood_init (T : Tx K mg) : Binds K (fdOf K ("Wood", some "__init__")) ["self", "bits"] [] := T.F_Wood_init.bindsN fun _ _ _ _ _ _ us hl => match us, hl with | [_, _], _ => rfl
abbrev N_Wood_init : List Str := ["self", "bits", "found", "deep", "block", "low", "bit"]
theorem sc_Wood_init : FnScope N_Wood_init ["self", "bits"] (defScope s_Wood_init) := ⟨rfl, rfl, rfl, by decide +kernel, rfl, by decide +kernel, by decide +kernel⟩
abbrev s_Wood_deep : Stmt := inClass (top 38) 1
theorem Tx.F_Wood_deep (T : Tx K mg) : FunD K "deep" "Wood.deep" (defArgs s_Wood_deep) (defBody s_Wood_deep) (defScope s_Wood_deep) [] [] (He.fAd K ("Wood", some "deep")) (fdOf K ("Wood", some "deep")) := T.fd 44 rfl rfl rfl
theorem Tx.B_Wood_deep (T : Tx K mg) : Binds K (fdOf K ("Wood", some "deep")) ["self", "place"] [] := T.F_Wood_deep.bindsN fun _ _ _ _ _ _ us hl => match us, hl with | [_, _], _ => rfl
abbrev N_Wood_deep : List Str := ["self", "place"]
theorem sc_Wood_deep : FnScope N_Wood_deep ["self", "place"] (defScope s_Wood_deep) := ⟨rfl, rfl, rfl, by decide +kernel, rfl, by decide +kernel, by decide +kernel⟩
abbrev s_Wood_low : Stmt := inClass (top 38) 2
theorem Tx.F_Wood_low (T : Tx K mg) : FunD K "low" "Wood.low" (defArgs s_Wood_low) (defBody s_Wood_low) (defScope s_Wood_low) [] [] (He.fAd K ("Wood", some "low")) (fdOf K ("Wood", some "low")) := T.fd 45 rfl rfl rfl
theorem Tx.B_Wood_low (T : Tx K mg) : Binds K (fdOf K ("Wood", some "low")) ["self", "block"] [] := T.F_Wood_low.bindsN fun _ _ _ _ _ _ us hl => match us, hl with | [_, _], _ => rfl
abbrev N_Wood_low : List Str := ["self", "block"]
theorem sc_Wood_low : FnScope N_Wood_low ["self", "block"] (defScope s_Wood_low) := ⟨rfl, rfl, rfl, by decide +kernel, rfl, by decide +kernel, by decide +kernel⟩
abbrev s_Wood_need : Stmt := inClass (top 38) 3
theorem Tx.F_Wood_need (T : Tx K mg) : FunD K "need" "Wood.need" (defArgs s_Wood_need) (defBody s_Wood_need) (defScope s_Wood_need) [] [] (He.fAd K ("Wood", some "need")) (fdOf K ("Wood", some "need")) := T.fd 46 rfl rfl rfl
theorem Tx.B_Wood_need (T : Tx K mg) : Binds K (fdOf K ("Wood", some "need")) ["self", "good"] [] := T.F_Wood_need.bindsN fun _ _ _ _ _ _ us hl => match us, hl with | [_, _], _ => rfl
abbrev N_Wood_need : List Str := ["self", "good"]
theorem sc_Wood_need : FnScope N_Wood_need ["self", "good"] (defScope s_Wood_need) := ⟨rfl, rfl, rfl, by decide +kernel, rfl, by decide +kernel, by decide +kernel⟩
abbrev s_Wood_need_node : Stmt := inClass (top 38) 4
theorem Tx.F_Wood_need_node (T : Tx K mg) : FunD K "need_node" "Wood.need_node" (defArgs s_Wood_need_node) (defBody s_Wood_need_node) (defScope s_Wood_need_node) [] [] (He.fAd K ("Wood", some "need_node")) (fdOf K ("Wood", some "need_node")) := T.fd 47 rfl rfl rfl
theorem Tx.B_Wood_need_node (T : Tx K mg) : Binds K (fdOf K ("Wood", some "need_node")) ["self", "node"] [] := T.F_Wood_need_node.bindsN fun _ _ _ _ _ _ us hl => match us, hl with | [_, _], _ => rfl
abbrev N_Wood_need_node : List Str := ["self", "node"]
theorem sc_Wood_need_node : FnScope N_Wood_need_node ["self", "node"] (defScope s_Wood_need_node) := ⟨rfl, rfl, rfl, by decide +kernel, rfl, by decide +kernel, by decide +kernel⟩
abbrev s_Wood_first_down : Stmt := inClass (top 38) 5
theorem Tx.F_Wood_first_down (T : Tx K mg) : FunD K "first_down" "Wood.first_down" (defArgs s_Wood_first_down) (defBody s_Wood_first_down) (defScope s_Wood_first_down) [] [] (He.fAd K ("Wood", some "first_down")) (fdOf K ("Wood", some "first_down")) := T.fd 48 rfl rfl rfl
theorem Tx.B_Wood_first_down (T : Tx K mg) : Binds K (fdOf K ("Wood", some "first_down")) ["self", "place", "deep"] [] := T.F_Wood_first_down.bindsN fun _ _ _ _ _ _ us hl => match us, hl with | [_, _, _], _ => rfl
abbrev N_Wood_first_down : List Str := ["self", "place", "deep", "here", "low"]
theorem sc_Wood_first_down : FnScope N_Wood_first_down ["self", "place", "deep"] (defScope s_Wood_first_down) := ⟨rfl, rfl, rfl, by decide +kernel, rfl, by decide +kernel, by decide +kernel⟩
abbrev s_Wood_last_at : Stmt := inClass (top 38) 6
theorem Tx.F_Wood_last_at (T : Tx K mg) : FunD K "last_at" "Wood.last_at" (defArgs s_Wood_last_at) (defBody s_Wood_last_at) (defScope s_Wood_last_at) [] [] (He.fAd K ("Wood", some "last_at")) (fdOf K ("Wood", some "last_at")) := T.fd 49 rfl rfl rfl
theorem Tx.B_Wood_last_at (T : Tx K mg) : Binds K (fdOf K ("Wood", some "last_at")) ["self", "place", "deep"] [] := T.F_Wood_last_at.bindsN fun _ _ _ _ _ _ us hl => match us, hl with | [_, _, _], _ => rfl
abbrev N_Wood_last_at : List Str := ["self", "place", "deep", "here"]
theorem sc_Wood_last_at : FnScope N_Wood_last_at ["self", "place", "deep"] (defScope s_Wood_last_at) := ⟨rfl, rfl, rfl, by decide +kernel, rfl, by decide +kernel, by decide +kernel⟩
abbrev s_Wood_size : Stmt := inClass (top 38) 7
theorem Tx.F_Wood_size (T : Tx K mg) : FunD K "size" "Wood.size" (defArgs s_Wood_size) (defBody s_Wood_size) (defScope s_Wood_size) [] [] (He.fAd K ("Wood", some "size")) (fdOf K ("Wood", some "size")) := T.fd 50 rfl rfl rfl
theorem Tx.B_Wood_size (T : Tx K mg) : Binds K (fdOf K ("Wood", some "size")) ["self"] [] := T.F_Wood_size.bindsN fun _ _ _ _ _ _ us hl => match us, hl with | [_], _ => rfl
abbrev N_Wood_size : List Str := ["self"]
theorem sc_Wood_size : FnScope N_Wood_size ["self"] (defScope s_Wood_size) := ⟨rfl, rfl, rfl, by decide +kernel, rfl, by decide +kernel, by decide +kernel⟩
abbrev s_Wood_node : Stmt := inClass (top 38) 8
theorem Tx.F_Wood_node (T : Tx K mg) : FunD K "node" "Wood.node" (defArgs s_Wood_node) (defBody s_Wood_node) (defScope s_Wood_node) [] [] (He.fAd K ("Wood", some "node")) (fdOf K ("Wood", some "node")) := T.fd 51 rfl rfl rfl
theorem Tx.B_Wood_node (T : Tx K mg) : Binds K (fdOf K ("Wood", some "node")) ["self", "number"] [] := T.F_Wood_node.bindsN fun _ _ _ _ _ _ us hl => match us, hl with | [_, _], _ => rfl
abbrev N_Wood_node : List Str := ["self", "number"]
theorem sc_Wood_node : FnScope N_Wood_node ["self", "number"] (defScope s_Wood_node) := ⟨rfl, rfl, rfl, by decide +kernel, rfl, by decide +kernel, by decide +kernel⟩
abbrev s_Wood_number : Stmt := inClass (top 38) 9
theorem Tx.F_Wood_number (T : Tx K mg) : FunD K "number" "Wood.number" (defArgs s_Wood_number) (defBody s_Wood_number) (defScope s_Wood_number) [] [] (He.fAd K ("Wood", some "number")) (fdOf K ("Wood", some "number")) := T.fd 52 rfl rfl rfl
theorem Tx.B_Wood_number (T : Tx K mg) : Binds K (fdOf K ("Wood", some "number")) ["self", "node"] [] := T.F_Wood_number.bindsN fun _ _ _ _ _ _ us hl => match us, hl with | [_, _], _ => rfl
abbrev N_Wood_number : List Str := ["self", "node"]
theorem sc_Wood_number : FnScope N_Wood_number ["self", "node"] (defScope s_Wood_number) := ⟨rfl, rfl, rfl, by decide +kernel, rfl, by decide +kernel, by decide +kernel⟩
abbrev s_Wood_end : Stmt := inClass (top 38) 10
theorem Tx.F_Wood_end (T : Tx K mg) : FunD K "end" "Wood.end" (defArgs s_Wood_end) (defBody s_Wood_end) (defScope s_Wood_end) [] [] (He.fAd K ("Wood", some "end")) (fdOf K ("Wood", some "end")) := T.fd 53 rfl rfl rfl
theorem Tx.B_Wood_end (T : Tx K mg) : Binds K (fdOf K ("Wood", some "end")) ["self", "node"] [] := T.F_Wood_end.bindsN fun _ _ _ _ _ _ us hl => match us, hl with | [_, _], _ => rfl
abbrev N_Wood_end : List Str := ["self", "node"]
theorem sc_Wood_end : FnScope N_Wood_end ["self", "node"] (defScope s_Wood_end) := ⟨rfl, rfl, rfl, by decide +kernel, rfl, by decide +kernel, by decide +kernel⟩
abbrev s_Wood_depth : Stmt := inClass (top 38) 12
theorem Tx.F_Wood_depth (T : Tx K mg) : FunD K "depth" "Wood.depth" (defArgs s_Wood_depth) (defBody s_Wood_depth) (defScope s_Wood_depth) [] [] (He.fAd K ("Wood", some "depth")) (fdOf K ("Wood", some "depth")) := T.fd 54 rfl rfl rfl
theorem Tx.B_Wood_depth (T : Tx K mg) : Binds K (fdOf K ("Wood", some "depth")) ["self", "node"] [] := T.F_Wood_depth.bindsN fun _ _ _ _ _ _ us hl => match us, hl with | [_, _], _ => rfl
abbrev N_Wood_depth : List Str := ["self", "node"]
theorem sc_Wood_depth : FnScope N_Wood_depth ["self", "node"] (defScope s_Wood_depth) := ⟨rfl, rfl, rfl, by decide +kernel, rfl, by decide +kernel, by decide +kernel⟩
abbrev s_Wood_many : Stmt := inClass (top 38) 13
theorem Tx.F_Wood_many (T : Tx K mg) : FunD K "many" "Wood.many" (defArgs s_Wood_many) (defBody s_Wood_many) (defScope s_Wood_many) [] [] (He.fAd K ("Wood", some "many")) (fdOf K ("Wood", some "many")) := T.fd 55 rfl rfl rfl
theorem Tx.B_Wood_many (T : Tx K mg) : Binds K (fdOf K ("Wood", some "many")) ["self", "node"] [] := T.F_Wood_many.bindsN fun _ _ _ _ _ _ us hl => match us, hl with | [_, _], _ => rfl
abbrev N_Wood_many : List Str := ["self", "node"]
theorem sc_Wood_many : FnScope N_Wood_many ["self", "node"] (defScope s_Wood_many) := ⟨rfl, rfl, rfl, by decide +kernel, rfl, by decide +kernel, by decide +kernel⟩
abbrev s_Wood_above : Stmt := inClass (top 38) 18
theorem Tx.F_Wood_above (T : Tx K mg) : FunD K "above" "Wood.above" (defArgs s_Wood_above) (defBody s_Wood_above) (defScope s_Wood_above) [] [] (He.fAd K ("Wood", some "above")) (fdOf K ("Wood", some "above")) := T.fd 56 rfl rfl rfl
theorem Tx.B_Wood_above (T : Tx K mg) : Binds K (fdOf K ("Wood", some "above")) ["self", "node", "steps"] [] := T.F_Wood_above.bindsN fun _ _ _ _ _ _ us hl => match us, hl with | [_, _, _], _ => rfl
abbrev N_Wood_above : List Str := ["self", "node", "steps"]
theorem sc_Wood_above : FnScope N_Wood_above ["self", "node", "steps"] (defScope s_Wood_above) := ⟨rfl, rfl, rfl, by decide +kernel, rfl, by decide +kernel, by decide +kernel⟩
abbrev s_Wood_parent : Stmt := inClass (top 38) 19
theorem Tx.F_Wood_parent (T : Tx K mg) : FunD K "parent" "Wood.parent" (defArgs s_Wood_parent) (defBody s_Wood_parent) (defScope s_Wood_parent) [] [] (He.fAd K ("Wood", some "parent")) (fdOf K ("Wood", some "parent")) := T.fd 57 rfl rfl rfl
theorem Tx.B_Wood_parent (T : Tx K mg) : Binds K (fdOf K ("Wood", some "parent")) ["self", "node"] [] := T.F_Wood_parent.bindsN fun _ _ _ _ _ _ us hl => match us, hl with | [_, _], _ => rfl
abbrev N_Wood_parent : List Str := ["self", "node"]
theorem sc_Wood_parent : FnScope N_Wood_parent ["self", "node"] (defScope s_Wood_parent) := ⟨rfl, rfl, rfl, by decide +kernel, rfl, by decide +kernel, by decide +kernel⟩
abbrev s_Wood_next_child : Stmt := inClass (top 38) 20
theorem Tx.F_Wood_next_child (T : Tx K mg) : FunD K "next_child" "Wood.next_child" (defArgs s_Wood_next_child) (defBody s_Wood_next_child) (defScope s_Wood_next_child) [] [] (He.fAd K ("Wood", some "next_child")) (fdOf K ("Wood", some "next_child")) := T.fd 58 rfl rfl rfl
theorem Tx.B_Wood_next_child (T : Tx K mg) : Binds K (fdOf K ("Wood", some "next_child")) ["self", "node"] [] := T.F_Wood_next_child.bindsN fun _ _ _ _ _ _ us hl => match us, hl with | [_, _], _ => rfl
abbrev N_Wood_next_child : List Str := ["self", "node", "place"]
theorem sc_Wood_next_child : FnScope N_Wood_next_child ["self", "node"] (defScope s_Wood_next_child) := ⟨rfl, rfl, rfl, by decide +kernel, rfl, by decide +kernel, by decide +kernel⟩
abbrev s_Wood_children : Stmt := inClass (top 38) 21
theorem Tx.F_Wood_children (T : Tx K mg) : FunD K "children" "Wood.children" (defArgs s_Wood_children) (defBody s_Wood_children) (defScope s_Wood_children) [] [] (He.fAd K ("Wood", some "children")) (fdOf K ("Wood", some "children")) := T.fd 59 rfl rfl rfl
theorem Tx.B_Wood_children (T : Tx K mg) : Binds K (fdOf K ("Wood", some "children")) ["self", "node"] [] := T.F_Wood_children.bindsN fun _ _ _ _ _ _ us hl => match us, hl with | [_, _], _ => rfl
abbrev N_Wood_children : List Str := ["self", "node", "found", "one"]
theorem sc_Wood_children : FnScope N_Wood_children ["self", "node"] (defScope s_Wood_children) := ⟨rfl, rfl, rfl, by decide +kernel, rfl, by decide +kernel, by decide +kernel⟩
abbrev s_Wood_child : Stmt := inClass (top 38) 23
theorem Tx.F_Wood_child (T : Tx K mg) : FunD K "child" "Wood.child" (defArgs s_Wood_child) (defBody s_Wood_child) (defScope s_Wood_child) [] [] (He.fAd K ("Wood", some "child")) (fdOf K ("Wood", some "child")) := T.fd 60 rfl rfl rfl
theorem Tx.B_Wood_child (T : Tx K mg) : Binds K (fdOf K ("Wood", some "child")) ["self", "node", "number"] [] := T.F_Wood_child.bindsN fun _ _ _ _ _ _ us hl => match us, hl with | [_, _, _], _ => rfl
abbrev N_Wood_child : List Str := ["self", "node", "number", "found"]
theorem sc_Wood_child : FnScope N_Wood_child ["self", "node", "number"] (defScope s_Wood_child) := ⟨rfl, rfl, rfl, by decide +kernel, rfl, by decide +kernel, by decide +kernel⟩
abbrev s_Wood_which : Stmt := inClass (top 38) 24
theorem Tx.F_Wood_which (T : Tx K mg) : FunD K "which" "Wood.which" (defArgs s_Wood_which) (defBody s_Wood_which) (defScope s_Wood_which) [] [] (He.fAd K ("Wood", some "which")) (fdOf K ("Wood", some "which")) := T.fd 61 rfl rfl rfl
theorem Tx.B_Wood_which (T : Tx K mg) : Binds K (fdOf K ("Wood", some "which")) ["self", "node"] [] := T.F_Wood_which.bindsN fun _ _ _ _ _ _ us hl => match us, hl with | [_, _], _ => rfl
abbrev N_Wood_which : List Str := ["self", "node", "one"]
theorem sc_Wood_which : FnScope N_Wood_which ["self", "node"] (defScope s_Wood_which) := ⟨rfl, rfl, rfl, by decide +kernel, rfl, by decide +kernel, by decide +kernel⟩
abbrev s_Wood_room : Stmt := inClass (top 38) 29
theorem Tx.F_Wood_room (T : Tx K mg) : FunD K "room" "Wood.room" (defArgs s_Wood_room) (defBody s_Wood_room) (defScope s_Wood_room) [] [] (He.fAd K ("Wood", some "room")) (fdOf K ("Wood", some "room")) := T.fd 62 rfl rfl rfl
theorem Tx.B_Wood_room (T : Tx K mg) : Binds K (fdOf K ("Wood", some "room")) ["self"] [] := T.F_Wood_room.bindsN fun _ _ _ _ _ _ us hl => match us, hl with | [_], _ => rfl
abbrev N_Wood_room : List Str := ["self"]
theorem sc_Wood_room : FnScope N_Wood_room ["self"] (defScope s_Wood_room) := ⟨rfl, rfl, rfl, by decide +kernel, rfl, by decide +kernel, by decide +kernel⟩
abbrev s_Marked_init : Stmt := inClass (top 40) 0
theorem Tx.F_Marked_init (T : Tx K mg) : FunD K "__init__" "Marked.__init__" (defArgs s_Marked_init) (defBody s_Marked_init) (defScope s_Marked_init) [] [] (He.fAd K ("Marked", some "__init__")) (fdOf K ("Marked", some "__init__")) := T.fd 63 rfl rfl rfl
theorem Tx.B_Marked_init (T : Tx K mg) : Binds K (fdOf K ("Marked", some "__init__")) ["self", "bits", "text"] [] := T.F_Marked_init.bindsN fun _ _ _ _ _ _ us hl => match us, hl with | [_, _, _], _ => rfl
abbrev N_Marked_init : List Str := ["self", "bits", "text"]
theorem sc_Marked_init : FnScope N_Marked_init ["self", "bits", "text"] (defScope s_Marked_init) := ⟨rfl, rfl, rfl, by decide +kernel, rfl, by decide +kernel, by decide +kernel⟩
abbrev s_Marked_wood : Stmt := inClass (top 40) 1
theorem Tx.F_Marked_wood (T : Tx K mg) : FunD K "wood" "Marked.wood" (defArgs s_Marked_wood) (defBody s_Marked_wood) (defScope s_Marked_wood) [] [] (He.fAd K ("Marked", some "wood")) (fdOf K ("Marked", some "wood")) := T.fd 64 rfl rfl rfl
theorem Tx.B_Marked_wood (T : Tx K mg) : Binds K (fdOf K ("Marked", some "wood")) ["self"] [] := T.F_Marked_wood.bindsN fun _ _ _ _ _ _ us hl => match us, hl with | [_], _ => rfl
abbrev N_Marked_wood : List Str := ["self"]
theorem sc_Marked_wood : FnScope N_Marked_wood ["self"] (defScope s_Marked_wood) := ⟨rfl, rfl, rfl, by decide +kernel, rfl, by decide +kernel, by decide +kernel⟩
abbrev s_Marked_sign : Stmt := inClass (top 40) 2
theorem Tx.F_Marked_sign (T : Tx K mg) : FunD K "sign" "Marked.sign" (defArgs s_Marked_sign) (defBody s_Marked_sign) (defScope s_Marked_sign) [] [] (He.fAd K ("Marked", some "sign")) (fdOf K ("Marked", some "sign")) := T.fd 65 rfl rfl rfl
theorem Tx.B_Marked_sign (T : Tx K mg) : Binds K (fdOf K ("Marked", some "sign")) ["self", "node"] [] := T.F_Marked_sign.bindsN fun _ _ _ _ _ _ us hl => match us, hl with | [_, _], _ => rfl
abbrev N_Marked_sign : List Str := ["self", "node"]
theorem sc_Marked_sign : FnScope N_Marked_sign ["self", "node"] (defScope s_Marked_sign) := ⟨rfl, rfl, rfl, by decide +kernel, rfl, by decide +kernel, by decide +kernel⟩
abbrev s_Marked_children_by : Stmt := inClass (top 40) 3
theorem Tx.F_Marked_children_by (T : Tx K mg) : FunD K "children_by" "Marked.children_by" (defArgs s_Marked_children_by) (defBody s_Marked_children_by) (defScope s_Marked_children_by) [] [] (He.fAd K ("Marked", some "children_by")) (fdOf K ("Marked", some "children_by")) := T.fd 66 rfl rfl rfl
theorem Tx.B_Marked_children_by (T : Tx K mg) : Binds K (fdOf K ("Marked", some "children_by")) ["self", "node", "sign"] [] := T.F_Marked_children_by.bindsN fun _ _ _ _ _ _ us hl => match us, hl with | [_, _, _], _ => rfl
abbrev N_Marked_children_by : List Str := ["self", "node", "sign", "children", "one"]
theorem sc_Marked_children_by : FnScope N_Marked_children_by ["self", "node", "sign"] (defScope s_Marked_children_by) := ⟨rfl, rfl, rfl, by decide +kernel, rfl, by decide +kernel, by decide +kernel⟩
abbrev s_Marked_child_by : Stmt := inClass (top 40) 4
theorem Tx.F_Marked_child_by (T : Tx K mg) : FunD K "child_by" "Marked.child_by" (defArgs s_Marked_child_by) (defBody s_Marked_child_by) (defScope s_Marked_child_by) [] [] (He.fAd K ("Marked", some "child_by")) (fdOf K ("Marked", some "child_by")) := T.fd 67 rfl rfl rfl
theorem Tx.B_Marked_child_by (T : Tx K mg) : Binds K (fdOf K ("Marked", some "child_by")) ["self", "node", "sign"] [] := T.F_Marked_child_by.bindsN fun _ _ _ _ _ _ us hl => match us, hl with | [_, _, _], _ => rfl
abbrev N_Marked_child_by : List Str := ["self", "node", "sign", "found"]
theorem sc_Marked_child_by : FnScope N_Marked_child_by ["self", "node", "sign"] (defScope s_Marked_child_by) := ⟨rfl, rfl, rfl, by decide +kernel, rfl, by decide +kernel, by decide +kernel⟩
abbrev s_Marked_path : Stmt := inClass (top 40) 5
theorem Tx.F_Marked_path (T : Tx K mg) : FunD K "path" "Marked.path" (defArgs s_Marked_path) (defBody s_Marked_path) (defScope s_Marked_path) [] [] (He.fAd K ("Marked", some "path")) (fdOf K ("Marked", some "path")) := T.fd 68 rfl rfl rfl
theorem Tx.B_Marked_path (T : Tx K mg) : Binds K (fdOf K ("Marked", some "path")) ["self", "text"] [] := T.F_Marked_path.bindsN fun _ _ _ _ _ _ us hl => match us, hl with | [_, _], _ => rfl
abbrev N_Marked_path : List Str := ["self", "text", "found", "sign", "later", "node"]
theorem sc_Marked_path : FnScope N_Marked_path ["self", "text"] (defScope s_Marked_path) := ⟨rfl, rfl, rfl, by decide +kernel, rfl, by decide +kernel, by decide +kernel⟩
abbrev s_Marked_count : Stmt := inClass (top 40) 6
theorem Tx.F_Marked_count (T : Tx K mg) : FunD K "count" "Marked.count" (defArgs s_Marked_count) (defBody s_Marked_count) (defScope s_Marked_count) [] [] (He.fAd K ("Marked", some "count")) (fdOf K ("Marked", some "count")) := T.fd 69 rfl rfl rfl
theorem Tx.B_Marked_count (T : Tx K mg) : Binds K (fdOf K ("Marked", some "count")) ["self", "node", "sign"] [] := T.F_Marked_count.bindsN fun _ _ _ _ _ _ us hl => match us, hl with | [_, _, _], _ => rfl
abbrev N_Marked_count : List Str := ["self", "node", "sign", "first", "end"]
theorem sc_Marked_count : FnScope N_Marked_count ["self", "node", "sign"] (defScope s_Marked_count) := ⟨rfl, rfl, rfl, by decide +kernel, rfl, by decide +kernel, by decide +kernel⟩
abbrev s_Marked_room : Stmt := inClass (top 40) 7
theorem Tx.F_Marked_room (T : Tx K mg) : FunD K "room" "Marked.room" (defArgs s_Marked_room) (defBody s_Marked_room) (defScope s_Marked_room) [] [] (He.fAd K ("Marked", some "room")) (fdOf K ("Marked", some "room")) := T.fd 70 rfl rfl rfl
theorem Tx.B_Marked_room (T : Tx K mg) : Binds K (fdOf K ("Marked", some "room")) ["self"] [] := T.F_Marked_room.bindsN fun _ _ _ _ _ _ us hl => match us, hl with | [_], _ => rfl
abbrev N_Marked_room : List Str := ["self"]
theorem sc_Marked_room : FnScope N_Marked_room ["self"] (defScope s_Marked_room) := ⟨rfl, rfl, rfl, by decide +kernel, rfl, by decide +kernel, by decide +kernel⟩
abbrev s__law_cell : Stmt := top 42
theorem Tx.F__law_cell (T : Tx K mg) : FunD K "_law_cell" "_law_cell" (defArgs s__law_cell) (defBody s__law_cell) (defScope s__law_cell) [] [] (He.fAd K ("_law_cell", none)) (fdOf K ("_law_cell", none)) := T.fd 71 rfl rfl rfl
theorem Tx.B__law_cell (T : Tx K mg) : Binds K (fdOf K ("_law_cell", none)) ["_law_script", "_law_k"] [] := T.F__law_cell.bindsN fun _ _ _ _ _ _ us hl => match us, hl with | [_, _], _ => rfl
abbrev N__law_cell : List Str := ["_law_script", "_law_k"]
theorem sc__law_cell : FnScope N__law_cell ["_law_script", "_law_k"] (defScope s__law_cell) := ⟨rfl, rfl, rfl, by decide +kernel, rfl, by decide +kernel, by decide +kernel⟩
abbrev s__law_drawn : Stmt := top 43
theorem Tx.F__law_drawn (T : Tx K mg) : FunD K "_law_drawn" "_law_drawn" (defArgs s__law_drawn) (defBody s__law_drawn) (defScope s__law_drawn) [] [] (He.fAd K ("_law_drawn", none)) (fdOf K ("_law_drawn", none)) := T.fd 72 rfl rfl rfl
theorem Tx.B__law_drawn (T : Tx K mg) : Binds K (fdOf K ("_law_drawn", none)) ["_law_cell_here", "_law_k"] [] := T.F__law_drawn.bindsN fun _ _ _ _ _ _ us hl => match us, hl with | [_, _], _ => rfl
abbrev N__law_drawn : List Str := ["_law_cell_here", "_law_k", "_law_more"]
theorem sc__law_drawn : FnScope N__law_drawn ["_law_cell_here", "_law_k"] (defScope s__law_drawn) := ⟨rfl, rfl, rfl, by decide +kernel, rfl, by decide +kernel, by decide +kernel⟩
abbrev s__law_word : Stmt := top 44
theorem Tx.F__law_word (T : Tx K mg) : FunD K "_law_word" "_law_word" (defArgs s__law_word) (defBody s__law_word) (defScope s__law_word) [] [] (He.fAd K ("_law_word", none)) (fdOf K ("_law_word", none)) := T.fd 73 rfl rfl rfl
theorem Tx.B__law_word (T : Tx K mg) : Binds K (fdOf K ("_law_word", none)) ["_law_e"] [] := T.F__law_word.bindsN fun _ _ _ _ _ _ us hl => match us, hl with | [_], _ => rfl
abbrev N__law_word : List Str := ["_law_e", "_law_flags", "_law_flag"]
theorem sc__law_word : FnScope N__law_word ["_law_e"] (defScope s__law_word) := ⟨rfl, rfl, rfl, by decide +kernel, rfl, by decide +kernel, by decide +kernel⟩
abbrev s__law_told : Stmt := top 45
theorem Tx.F__law_told (T : Tx K mg) : FunD K "_law_told" "_law_told" (defArgs s__law_told) (defBody s__law_told) (defScope s__law_told) [] [] (He.fAd K ("_law_told", none)) (fdOf K ("_law_told", none)) := T.fd 74 rfl rfl rfl
theorem Tx.B__law_told (T : Tx K mg) : Binds K (fdOf K ("_law_told", none)) ["_law_deed"] [] := T.F__law_told.bindsN fun _ _ _ _ _ _ us hl => match us, hl with | [_], _ => rfl
abbrev N__law_told : List Str := ["_law_deed", "_law_e"]
theorem sc__law_told : FnScope N__law_told ["_law_deed"] (defScope s__law_told) := ⟨rfl, rfl, rfl, by decide +kernel, rfl, by decide +kernel, by decide +kernel⟩
abbrev s__law_tree : Stmt := top 46
theorem Tx.F__law_tree (T : Tx K mg) : FunD K "_law_tree" "_law_tree" (defArgs s__law_tree) (defBody s__law_tree) (defScope s__law_tree) [] [] (He.fAd K ("_law_tree", none)) (fdOf K ("_law_tree", none)) := T.fd 75 rfl rfl rfl
theorem Tx.B__law_tree (T : Tx K mg) : Binds K (fdOf K ("_law_tree", none)) ["_law_more", "_law_many"] [] := T.F__law_tree.bindsN fun _ _ _ _ _ _ us hl => match us, hl with | [_, _], _ => rfl
abbrev N__law_tree : List Str := ["_law_more", "_law_many", "_law_rows", "_law_nodes", "_law_ways", "_law_j", "_law_here", "_law_at", "_law_fresh"]
theorem sc__law_tree : FnScope N__law_tree ["_law_more", "_law_many"] (defScope s__law_tree) := ⟨rfl, rfl, rfl, by decide +kernel, rfl, by decide +kernel, by decide +kernel⟩
abbrev s__law_bits_of : Stmt := top 47
theorem Tx.F__law_bits_of (T : Tx K mg) : FunD K "_law_bits_of" "_law_bits_of" (defArgs s__law_bits_of) (defBody s__law_bits_of) (defScope s__law_bits_of) [] [] (He.fAd K ("_law_bits_of", none)) (fdOf K ("_law_bits_of", none)) := T.fd 76 rfl rfl rfl
theorem Tx.B__law_bits_of (T : Tx K mg) : Binds K (fdOf K ("_law_bits_of", none)) ["_law_tree_here"] [] := T.F__law_bits_of.bindsN fun _ _ _ _ _ _ us hl => match us, hl with | [_], _ => rfl
abbrev N__law_bits_of : List Str := ["_law_tree_here", "_law_found", "_law_child"]
theorem sc__law_bits_of : FnScope N__law_bits_of ["_law_tree_here"] (defScope s__law_bits_of) := ⟨rfl, rfl, rfl, by decide +kernel, rfl, by decide +kernel, by decide +kernel⟩
abbrev s__law_model : Stmt := top 48
theorem Tx.F__law_model (T : Tx K mg) : FunD K "_law_model" "_law_model" (defArgs s__law_model) (defBody s__law_model) (defScope s__law_model) [] [] (He.fAd K ("_law_model", none)) (fdOf K ("_law_model", none)) := T.fd 77 rfl rfl rfl
theorem Tx.B__law_model (T : Tx K mg) : Binds K (fdOf K ("_law_model", none)) ["_law_bits"] [] := T.F__law_model.bindsN fun _ _ _ _ _ _ us hl => match us, hl with | [_], _ => rfl
abbrev N__law_model : List Str := ["_law_bits", "_law_found", "_law_open_here", "_law_behind", "_law_at", "_law_one", "_law_node"]
theorem sc__law_model : FnScope N__law_model ["_law_bits"] (defScope s__law_model) := ⟨rfl, rfl, rfl, by decide +kernel, rfl, by decide +kernel, by decide +kernel⟩
abbrev s__law_own : Stmt := top 49
theorem Tx.F__law_own (T : Tx K mg) : FunD K "_law_own" "_law_own" (defArgs s__law_own) (defBody s__law_own) (defScope s__law_own) [] [] (He.fAd K ("_law_own", none)) (fdOf K ("_law_own", none)) := T.fd 78 rfl rfl rfl
theorem Tx.B__law_own (T : Tx K mg) : Binds K (fdOf K ("_law_own", none)) ["_law_model_here", "_law_node"] [] := T.F__law_own.bindsN fun _ _ _ _ _ _ us hl => match us, hl with | [_, _], _ => rfl
abbrev N__law_own : List Str := ["_law_model_here", "_law_node", "_law_one"]
theorem sc__law_own : FnScope N__law_own ["_law_model_here", "_law_node"] (defScope s__law_own) := ⟨rfl, rfl, rfl, by decide +kernel, rfl, by decide +kernel, by decide +kernel⟩
abbrev s__law_signs : Stmt := top 50
theorem Tx.F__law_signs (T : Tx K mg) : FunD K "_law_signs" "_law_signs" (defArgs s__law_signs) (defBody s__law_signs) (defScope s__law_signs) [] [] (He.fAd K ("_law_signs", none)) (fdOf K ("_law_signs", none)) := T.fd 79 rfl rfl rfl
theorem Tx.B__law_signs (T : Tx K mg) : Binds K (fdOf K ("_law_signs", none)) ["_law_more", "_law_many"] [] := T.F__law_signs.bindsN fun _ _ _ _ _ _ us hl => match us, hl with | [_, _], _ => rfl
abbrev N__law_signs : List Str := ["_law_more", "_law_many", "_law_j"]
theorem sc__law_signs : FnScope N__law_signs ["_law_more", "_law_many"] (defScope s__law_signs) := ⟨rfl, rfl, rfl, by decide +kernel, rfl, by decide +kernel, by decide +kernel⟩
abbrev s__law_way : Stmt := top 51
theorem Tx.F__law_way (T : Tx K mg) : FunD K "_law_way" "_law_way" (defArgs s__law_way) (defBody s__law_way) (defScope s__law_way) [] [] (He.fAd K ("_law_way", none)) (fdOf K ("_law_way", none)) := T.fd 80 rfl rfl rfl
theorem Tx.B__law_way (T : Tx K mg) : Binds K (fdOf K ("_law_way", none)) ["_law_model_here", "_law_signs_here", "_law_node"] [] := T.F__law_way.bindsN fun _ _ _ _ _ _ us hl => match us, hl with | [_, _, _], _ => rfl
abbrev N__law_way : List Str := ["_law_model_here", "_law_signs_here", "_law_node", "_law_found"]
theorem sc__law_way : FnScope N__law_way ["_law_model_here", "_law_signs_here", "_law_node"] (defScope s__law_way) := ⟨rfl, rfl, rfl, by decide +kernel, rfl, by decide +kernel, by decide +kernel⟩
abbrev s__law_refused_right : Stmt := top 52
theorem Tx.F__law_refused_right (T : Tx K mg) : FunD K "_law_refused_right" "_law_refused_right" (defArgs s__law_refused_right) (defBody s__law_refused_right) (defScope s__law_refused_right) [] [] (He.fAd K ("_law_refused_right", none)) (fdOf K ("_law_refused_right", none)) := T.fd 81 rfl rfl rfl
theorem Tx.B__law_refused_right (T : Tx K mg) : Binds K (fdOf K ("_law_refused_right", none)) ["_law_marked", "_law_bits", "_law_signs_here", "_law_end"] [] := T.F__law_refused_right.bindsN fun _ _ _ _ _ _ us hl => match us, hl with | [_, _, _, _], _ => rfl
abbrev N__law_refused_right : List Str := ["_law_marked", "_law_bits", "_law_signs_here", "_law_end", "_law_many", "_law_some"]
theorem sc__law_refused_right : FnScope N__law_refused_right ["_law_marked", "_law_bits", "_law_signs_here", "_law_end"] (defScope s__law_refused_right) := ⟨rfl, rfl, rfl, by decide +kernel, rfl, by decide +kernel, by decide +kernel⟩
abbrev s_law : Stmt := top 53
theorem Tx.F_law (T : Tx K mg) : FunD K "law" "law" (defArgs s_law) (defBody s_law) (defScope s_law) [] [] (He.fAd K ("law", none)) (fdOf K ("law", none)) := T.fd 82 rfl rfl rfl
theorem Tx.B_law (T : Tx K mg) : Binds K (fdOf K ("law", none)) ["_law_script"] [] := T.F_law.bindsN fun _ _ _ _ _ _ us hl => match us, hl with | [_], _ => rfl
abbrev N_law : List Str := ["_law_script", "_law_k", "_law_more", "_law_many", "_law_bits", "_law_signs_here", "_law_model_here", "_law_marked", "_law_nodes", "_law_ways", "_law_node", "_law_j", "_law_here", "_law_sign", "_law_fit", "_law_one", "_law_own_here", "_law_path", "_law_at"]
theorem sc_law : FnScope N_law ["_law_script"] (defScope s_law) := ⟨rfl, rfl, rfl, by decide +kernel, rfl, by decide +kernel, by decide +kernel⟩
theorem Tx.g_needs (T : Tx K mg) : mg "needs" = some (.ref (He.ga K "needs")) := T.glo 0 rfl
theorem Tx.g_in_bits (T : Tx K mg) : mg "in_bits" = some (.ref (He.ga K "in_bits")) := T.glo 1 rfl
theorem Tx.g_out_of (T : Tx K mg) : mg "out_of" = some (.ref (He.ga K "out_of")) := T.glo 2 rfl
theorem Tx.g_need_bits (T : Tx K mg) : mg "need_bits" = some (.ref (He.ga K "need_bits")) := T.glo 3 rfl
theorem Tx.g_pack (T : Tx K mg) : mg "pack" = some (.ref (He.ga K "pack")) := T.glo 4 rfl
theorem Tx.g_need_packed (T : Tx K mg) : mg "need_packed" = some (.ref (He.ga K "need_packed")) := T.glo 5 rfl
theorem Tx.g_number_at (T : Tx K mg) : mg "number_at" = some (.ref (He.ga K "number_at")) := T.glo 6 rfl
theorem Tx.g_is_sign (T : Tx K mg) : mg "is_sign" = some (.ref (He.ga K "is_sign")) := T.glo 7 rfl
theorem Tx.g_need_text (T : Tx K mg) : mg "need_text" = some (.ref (He.ga K "need_text")) := T.glo 8 rfl
theorem Tx.g_letters_of (T : Tx K mg) : mg "letters_of" = some (.ref (He.ga K "letters_of")) := T.glo 9 rfl
theorem Tx.g_levels (T : Tx K mg) : mg "levels" = some (.ref (He.ga K "levels")) := T.glo 10 rfl
theorem Tx.g_need_tree (T : Tx K mg) : mg "need_tree" = some (.ref (He.ga K "need_tree")) := T.glo 11 rfl
theorem Tx.g__law_cell (T : Tx K mg) : mg "_law_cell" = some (.ref (He.ga K "_law_cell")) := T.glo 12 rfl
theorem Tx.g__law_drawn (T : Tx K mg) : mg "_law_drawn" = some (.ref (He.ga K "_law_drawn")) := T.glo 13 rfl
theorem Tx.g__law_word (T : Tx K mg) : mg "_law_word" = some (.ref (He.ga K "_law_word")) := T.glo 14 rfl
theorem Tx.g__law_told (T : Tx K mg) : mg "_law_told" = some (.ref (He.ga K "_law_told")) := T.glo 15 rfl
theorem Tx.g__law_tree (T : Tx K mg) : mg "_law_tree" = some (.ref (He.ga K "_law_tree")) := T.glo 16 rfl
theorem Tx.g__law_bits_of (T : Tx K mg) : mg "_law_bits_of" = some (.ref (He.ga K "_law_bits_of")) := T.glo 17 rfl
theorem Tx.g__law_model (T : Tx K mg) : mg "_law_model" = some (.ref (He.ga K "_law_model")) := T.glo 18 rfl
theorem Tx.g__law_own (T : Tx K mg) : mg "_law_own" = some (.ref (He.ga K "_law_own")) := T.glo 19 rfl
theorem Tx.g__law_signs (T : Tx K mg) : mg "_law_signs" = some (.ref (He.ga K "_law_signs")) := T.glo 20 rfl
theorem Tx.g__law_way (T : Tx K mg) : mg "_law_way" = some (.ref (He.ga K "_law_way")) := T.glo 21 rfl
theorem Tx.g__law_refused_right (T : Tx K mg) : mg "_law_refused_right" = some (.ref (He.ga K "_law_refused_right")) := T.glo 22 rfl
theorem Tx.g_law (T : Tx K mg) : mg "law" = some (.ref (He.ga K "law")) := T.glo 23 rfl
theorem Tx.z_range (T : Tx K mg) : mg "range" = none := T.free 24 rfl
theorem Tx.z_str (T : Tx K mg) : mg "str" = none := T.free 25 rfl
theorem Tx.z_int (T : Tx K mg) : mg "int" = none := T.free 26 rfl
theorem Tx.z_all (T : Tx K mg) : mg "all" = none := T.free 27 rfl
theorem Tx.z_len (T : Tx K mg) : mg "len" = none := T.free 28 rfl
theorem Tx.z_sum (T : Tx K mg) : mg "sum" = none := T.free 29 rfl
theorem Tx.z_min (T : Tx K mg) : mg "min" = none := T.free 30 rfl
theorem Tx.z_ord (T : Tx K mg) : mg "ord" = none := T.free 31 rfl
theorem Tx.z_sorted (T : Tx K mg) : mg "sorted" = none := T.free 32 rfl
theorem Tx.z_set (T : Tx K mg) : mg "set" = none := T.free 33 rfl
theorem Tx.z_max (T : Tx K mg) : mg "max" = none := T.free 34 rfl
theorem Tx.z_zip (T : Tx K mg) : mg "zip" = none := T.free 35 rfl
theorem Tx.z_enumerate (T : Tx K mg) : mg "enumerate" = none := T.free 36 rfl
theorem Tx.z_isinstance (T : Tx K mg) : mg "isinstance" = none := T.free 37 rfl
theorem Tx.z_ValueError (T : Tx K mg) : mg "ValueError" = none := T.free 38 rfl
theorem Tx.c_BLOCK (T : Tx K mg) : ∃ t, mg "BLOCK" = some (.int 32 t) := T.int 39 rfl
theorem Tx.c_MOST_rows (T : Tx K mg) : ∃ t, mg "MOST_rows" = some (.int 4096 t) := T.int 40 rfl
theorem Tx.c_FIRST (T : Tx K mg) : ∃ t, mg "FIRST" = some (.str " " t) := T.str 41 rfl
theorem Tx.c_LAST (T : Tx K mg) : ∃ t, mg "LAST" = some (.str "~" t) := T.str 42 rfl
theorem Tx.c_BARRED (T : Tx K mg) : ∃ t, mg "BARRED" = some (.int 37 t) := T.int 43 rfl
theorem Tx.c_MOST_texts (T : Tx K mg) : ∃ t, mg "MOST_texts" = some (.int 512 t) := T.int 44 rfl
theorem Tx.c_LETTER_BITS (T : Tx K mg) : ∃ t, mg "LETTER_BITS" = some (.int 7 t) := T.int 45 rfl
theorem Tx.c_MOST_NODES (T : Tx K mg) : ∃ t, mg "MOST_NODES" = some (.int 1000 t) := T.int 46 rfl
theorem Tx.c_MOST_DEEP (T : Tx K mg) : ∃ t, mg "MOST_DEEP" = some (.int 200 t) := T.int 47 rfl
theorem Tx.g_TerseError (T : Tx K mg) : mg "TerseError" = some (.ref (He.ga K "TerseError")) := T.glo 48 rfl
theorem Tx.x_TerseError (T : Tx K mg) : ExcF K mg "TerseError" := ⟨T.glo 48 rfl, He.exc_ok (T.fct 49 rfl)⟩
theorem Tx.m_TerseError (T : Tx K mg) : PySem.W.exmOne K (.ref (He.ga K "TerseError")) (.ref (He.ga K "TerseError")) = some true := He.exm_ok (T.fct 50 rfl)
theorem Tx.g_BadNumber (T : Tx K mg) : mg "BadNumber" = some (.ref (He.ga K "BadNumber")) := T.glo 51 rfl
theorem Tx.x_BadNumber (T : Tx K mg) : ExcF K mg "BadNumber" := ⟨T.glo 51 rfl, He.exc_ok (T.fct 52 rfl)⟩
theorem Tx.m_BadNumber (T : Tx K mg) : PySem.W.exmOne K (.ref (He.ga K "BadNumber")) (.ref (He.ga K "TerseError")) = some true := He.exm_ok (T.fct 53 rfl)
theorem Tx.g_BadBits (T : Tx K mg) : mg "BadBits" = some (.ref (He.ga K "BadBits")) := T.glo 54 rfl
theorem Tx.x_BadBits (T : Tx K mg) : ExcF K mg "BadBits" := ⟨T.glo 54 rfl, He.exc_ok (T.fct 55 rfl)⟩
theorem Tx.m_BadBits (T : Tx K mg) : PySem.W.exmOne K (.ref (He.ga K "BadBits")) (.ref (He.ga K "TerseError")) = some true := He.exm_ok (T.fct 56 rfl)
theorem Tx.g_BadPlace (T : Tx K mg) : mg "BadPlace" = some (.ref (He.ga K "BadPlace")) := T.glo 57 rfl
theorem Tx.x_BadPlace (T : Tx K mg) : ExcF K mg "BadPlace" := ⟨T.glo 57 rfl, He.exc_ok (T.fct 58 rfl)⟩
theorem Tx.m_BadPlace (T : Tx K mg) : PySem.W.exmOne K (.ref (He.ga K "BadPlace")) (.ref (He.ga K "TerseError")) = some true := He.exm_ok (T.fct 59 rfl)
theorem Tx.g_BadText (T : Tx K mg) : mg "BadText" = some (.ref (He.ga K "BadText")) := T.glo 60 rfl
theorem Tx.x_BadText (T : Tx K mg) : ExcF K mg "BadText" := ⟨T.glo 60 rfl, He.exc_ok (T.fct 61 rfl)⟩
theorem Tx.m_BadText (T : Tx K mg) : PySem.W.exmOne K (.ref (He.ga K "BadText")) (.ref (He.ga K "TerseError")) = some true := He.exm_ok (T.fct 62 rfl)
theorem Tx.g_BadCode (T : Tx K mg) : mg "BadCode" = some (.ref (He.ga K "BadCode")) := T.glo 63 rfl
theorem Tx.x_BadCode (T : Tx K mg) : ExcF K mg "BadCode" := ⟨T.glo 63 rfl, He.exc_ok (T.fct 64 rfl)⟩
theorem Tx.m_BadCode (T : Tx K mg) : PySem.W.exmOne K (.ref (He.ga K "BadCode")) (.ref (He.ga K "TerseError")) = some true := He.exm_ok (T.fct 65 rfl)
theorem Tx.g_BadTree (T : Tx K mg) : mg "BadTree" = some (.ref (He.ga K "BadTree")) := T.glo 66 rfl
theorem Tx.x_BadTree (T : Tx K mg) : ExcF K mg "BadTree" := ⟨T.glo 66 rfl, He.exc_ok (T.fct 67 rfl)⟩
theorem Tx.m_BadTree (T : Tx K mg) : PySem.W.exmOne K (.ref (He.ga K "BadTree")) (.ref (He.ga K "TerseError")) = some true := He.exm_ok (T.fct 68 rfl)
theorem Tx.g_TooMany (T : Tx K mg) : mg "TooMany" = some (.ref (He.ga K "TooMany")) := T.glo 69 rfl
theorem Tx.x_TooMany (T : Tx K mg) : ExcF K mg "TooMany" := ⟨T.glo 69 rfl, He.exc_ok (T.fct 70 rfl)⟩
theorem Tx.m_TooMany (T : Tx K mg) : PySem.W.exmOne K (.ref (He.ga K "TooMany")) (.ref (He.ga K "TerseError")) = some true := He.exm_ok (T.fct 71 rfl)
theorem Tx.g_Row (T : Tx K mg) : mg "Row" = some (.ref (He.ga K "Row")) := T.glo 72 rfl
theorem Tx.k_Row (T : Tx K mg) : Cls K (He.ga K "Row") := He.cls_ok (T.fct 73 rfl)
theorem Tx.mk_Row (T : Tx K mg) : Mk K (He.ga K "Row") (He.fAd K ("Row", some "__init__")) := He.mkr_ok (T.fct 74 rfl)
theorem Tx.n_Row_own (T : Tx K mg) : NoAttr K (He.ga K "Row") "own" := He.noat_ok (T.fct 75 rfl)
theorem Tx.n_Row_wide (T : Tx K mg) : NoAttr K (He.ga K "Row") "wide" := He.noat_ok (T.fct 76 rfl)
theorem Tx.n_Row_whole_blocks (T : Tx K mg) : NoAttr K (He.ga K "Row") "whole_blocks" := He.noat_ok (T.fct 77 rfl)
theorem Tx.n_Row_counts (T : Tx K mg) : NoAttr K (He.ga K "Row") "counts" := He.noat_ok (T.fct 78 rfl)
theorem Tx.n_Row_seen (T : Tx K mg) : NoAttr K (He.ga K "Row") "seen" := He.noat_ok (T.fct 79 rfl)
theorem Tx.M_Row_init (T : Tx K mg) : Meth K (He.ga K "Row") "__init__" (He.fAd K ("Row", some "__init__")) := He.meth_ok (T.fct 80 rfl)
theorem Tx.M_Row_need (T : Tx K mg) : Meth K (He.ga K "Row") "need" (He.fAd K ("Row", some "need")) := He.meth_ok (T.fct 81 rfl)
theorem Tx.M_Row_size (T : Tx K mg) : Meth K (He.ga K "Row") "size" (He.fAd K ("Row", some "size")) := He.meth_ok (T.fct 82 rfl)
theorem Tx.M_Row_bits (T : Tx K mg) : Meth K (He.ga K "Row") "bits" (He.fAd K ("Row", some "bits")) := He.meth_ok (T.fct 83 rfl)
theorem Tx.M_Row_look (T : Tx K mg) : Meth K (He.ga K "Row") "look" (He.fAd K ("Row", some "look")) := He.meth_ok (T.fct 84 rfl)
theorem Tx.M_Row_bit (T : Tx K mg) : Meth K (He.ga K "Row") "bit" (He.fAd K ("Row", some "bit")) := He.meth_ok (T.fct 85 rfl)
theorem Tx.M_Row_up_to (T : Tx K mg) : Meth K (He.ga K "Row") "up_to" (He.fAd K ("Row", some "up_to")) := He.meth_ok (T.fct 86 rfl)
theorem Tx.M_Row_ones (T : Tx K mg) : Meth K (He.ga K "Row") "ones" (He.fAd K ("Row", some "ones")) := He.meth_ok (T.fct 87 rfl)
theorem Tx.M_Row_noughts (T : Tx K mg) : Meth K (He.ga K "Row") "noughts" (He.fAd K ("Row", some "noughts")) := He.meth_ok (T.fct 88 rfl)
theorem Tx.M_Row_ahead (T : Tx K mg) : Meth K (He.ga K "Row") "ahead" (He.fAd K ("Row", some "ahead")) := He.meth_ok (T.fct 89 rfl)
theorem Tx.M_Row_found_at (T : Tx K mg) : Meth K (He.ga K "Row") "found_at" (He.fAd K ("Row", some "found_at")) := He.meth_ok (T.fct 90 rfl)
theorem Tx.M_Row_one_at (T : Tx K mg) : Meth K (He.ga K "Row") "one_at" (He.fAd K ("Row", some "one_at")) := He.meth_ok (T.fct 91 rfl)
theorem Tx.M_Row_nought_at (T : Tx K mg) : Meth K (He.ga K "Row") "nought_at" (He.fAd K ("Row", some "nought_at")) := He.meth_ok (T.fct 92 rfl)
theorem Tx.M_Row_room (T : Tx K mg) : Meth K (He.ga K "Row") "room" (He.fAd K ("Row", some "room")) := He.meth_ok (T.fct 93 rfl)
theorem Tx.g_Text (T : Tx K mg) : mg "Text" = some (.ref (He.ga K "Text")) := T.glo 94 rfl
theorem Tx.k_Text (T : Tx K mg) : Cls K (He.ga K "Text") := He.cls_ok (T.fct 95 rfl)
theorem Tx.mk_Text (T : Tx K mg) : Mk K (He.ga K "Text") (He.fAd K ("Text", some "__init__")) := He.mkr_ok (T.fct 96 rfl)
theorem Tx.n_Text_rows (T : Tx K mg) : NoAttr K (He.ga K "Text") "rows" := He.noat_ok (T.fct 97 rfl)
theorem Tx.n_Text_signs (T : Tx K mg) : NoAttr K (He.ga K "Text") "signs" := He.noat_ok (T.fct 98 rfl)
theorem Tx.n_Text_length (T : Tx K mg) : NoAttr K (He.ga K "Text") "length" := He.noat_ok (T.fct 99 rfl)
theorem Tx.M_Text_init (T : Tx K mg) : Meth K (He.ga K "Text") "__init__" (He.fAd K ("Text", some "__init__")) := He.meth_ok (T.fct 100 rfl)
theorem Tx.M_Text_need (T : Tx K mg) : Meth K (He.ga K "Text") "need" (He.fAd K ("Text", some "need")) := He.meth_ok (T.fct 101 rfl)
theorem Tx.M_Text_need_sign (T : Tx K mg) : Meth K (He.ga K "Text") "need_sign" (He.fAd K ("Text", some "need_sign")) := He.meth_ok (T.fct 102 rfl)
theorem Tx.M_Text_size (T : Tx K mg) : Meth K (He.ga K "Text") "size" (He.fAd K ("Text", some "size")) := He.meth_ok (T.fct 103 rfl)
theorem Tx.M_Text_letters (T : Tx K mg) : Meth K (He.ga K "Text") "letters" (He.fAd K ("Text", some "letters")) := He.meth_ok (T.fct 104 rfl)
theorem Tx.M_Text_word_at (T : Tx K mg) : Meth K (He.ga K "Text") "word_at" (He.fAd K ("Text", some "word_at")) := He.meth_ok (T.fct 105 rfl)
theorem Tx.M_Text_gone (T : Tx K mg) : Meth K (He.ga K "Text") "gone" (He.fAd K ("Text", some "gone")) := He.meth_ok (T.fct 106 rfl)
theorem Tx.M_Text_sign (T : Tx K mg) : Meth K (He.ga K "Text") "sign" (He.fAd K ("Text", some "sign")) := He.meth_ok (T.fct 107 rfl)
theorem Tx.M_Text_text (T : Tx K mg) : Meth K (He.ga K "Text") "text" (He.fAd K ("Text", some "text")) := He.meth_ok (T.fct 108 rfl)
theorem Tx.M_Text_span_of (T : Tx K mg) : Meth K (He.ga K "Text") "span_of" (He.fAd K ("Text", some "span_of")) := He.meth_ok (T.fct 109 rfl)
theorem Tx.M_Text_word_of (T : Tx K mg) : Meth K (He.ga K "Text") "word_of" (He.fAd K ("Text", some "word_of")) := He.meth_ok (T.fct 110 rfl)
theorem Tx.M_Text_count (T : Tx K mg) : Meth K (He.ga K "Text") "count" (He.fAd K ("Text", some "count")) := He.meth_ok (T.fct 111 rfl)
theorem Tx.M_Text_back (T : Tx K mg) : Meth K (He.ga K "Text") "back" (He.fAd K ("Text", some "back")) := He.meth_ok (T.fct 112 rfl)
theorem Tx.M_Text_place (T : Tx K mg) : Meth K (He.ga K "Text") "place" (He.fAd K ("Text", some "place")) := He.meth_ok (T.fct 113 rfl)
theorem Tx.M_Text_need_span (T : Tx K mg) : Meth K (He.ga K "Text") "need_span" (He.fAd K ("Text", some "need_span")) := He.meth_ok (T.fct 114 rfl)
theorem Tx.M_Text_below (T : Tx K mg) : Meth K (He.ga K "Text") "below" (He.fAd K ("Text", some "below")) := He.meth_ok (T.fct 115 rfl)
theorem Tx.M_Text_room (T : Tx K mg) : Meth K (He.ga K "Text") "room" (He.fAd K ("Text", some "room")) := He.meth_ok (T.fct 116 rfl)
theorem Tx.g_Wood (T : Tx K mg) : mg "Wood" = some (.ref (He.ga K "Wood")) := T.glo 117 rfl
theorem Tx.k_Wood (T : Tx K mg) : Cls K (He.ga K "Wood") := He.cls_ok (T.fct 118 rfl)
theorem Tx.mk_Wood (T : Tx K mg) : Mk K (He.ga K "Wood") (He.fAd K ("Wood", some "__init__")) := He.mkr_ok (T.fct 119 rfl)
theorem Tx.n_Wood_row (T : Tx K mg) : NoAttr K (He.ga K "Wood") "row" := He.noat_ok (T.fct 120 rfl)
theorem Tx.n_Wood_wide (T : Tx K mg) : NoAttr K (He.ga K "Wood") "wide" := He.noat_ok (T.fct 121 rfl)
theorem Tx.n_Wood_lows (T : Tx K mg) : NoAttr K (He.ga K "Wood") "lows" := He.noat_ok (T.fct 122 rfl)
theorem Tx.M_Wood_init (T : Tx K mg) : Meth K (He.ga K "Wood") "__init__" (He.fAd K ("Wood", some "__init__")) := He.meth_ok (T.fct 123 rfl)
theorem Tx.M_Wood_deep (T : Tx K mg) : Meth K (He.ga K "Wood") "deep" (He.fAd K ("Wood", some "deep")) := He.meth_ok (T.fct 124 rfl)
theorem Tx.M_Wood_low (T : Tx K mg) : Meth K (He.ga K "Wood") "low" (He.fAd K ("Wood", some "low")) := He.meth_ok (T.fct 125 rfl)
theorem Tx.M_Wood_need (T : Tx K mg) : Meth K (He.ga K "Wood") "need" (He.fAd K ("Wood", some "need")) := He.meth_ok (T.fct 126 rfl)
theorem Tx.M_Wood_need_node (T : Tx K mg) : Meth K (He.ga K "Wood") "need_node" (He.fAd K ("Wood", some "need_node")) := He.meth_ok (T.fct 127 rfl)
theorem Tx.M_Wood_first_down (T : Tx K mg) : Meth K (He.ga K "Wood") "first_down" (He.fAd K ("Wood", some "first_down")) := He.meth_ok (T.fct 128 rfl)
theorem Tx.M_Wood_last_at (T : Tx K mg) : Meth K (He.ga K "Wood") "last_at" (He.fAd K ("Wood", some "last_at")) := He.meth_ok (T.fct 129 rfl)
theorem Tx.M_Wood_size (T : Tx K mg) : Meth K (He.ga K "Wood") "size" (He.fAd K ("Wood", some "size")) := He.meth_ok (T.fct 130 rfl)
theorem Tx.M_Wood_node (T : Tx K mg) : Meth K (He.ga K "Wood") "node" (He.fAd K ("Wood", some "node")) := He.meth_ok (T.fct 131 rfl)
theorem Tx.M_Wood_number (T : Tx K mg) : Meth K (He.ga K "Wood") "number" (He.fAd K ("Wood", some "number")) := He.meth_ok (T.fct 132 rfl)
theorem Tx.M_Wood_end (T : Tx K mg) : Meth K (He.ga K "Wood") "end" (He.fAd K ("Wood", some "end")) := He.meth_ok (T.fct 133 rfl)
theorem Tx.M_Wood_depth (T : Tx K mg) : Meth K (He.ga K "Wood") "depth" (He.fAd K ("Wood", some "depth")) := He.meth_ok (T.fct 134 rfl)
theorem Tx.M_Wood_many (T : Tx K mg) : Meth K (He.ga K "Wood") "many" (He.fAd K ("Wood", some "many")) := He.meth_ok (T.fct 135 rfl)
theorem Tx.M_Wood_above (T : Tx K mg) : Meth K (He.ga K "Wood") "above" (He.fAd K ("Wood", some "above")) := He.meth_ok (T.fct 136 rfl)
theorem Tx.M_Wood_parent (T : Tx K mg) : Meth K (He.ga K "Wood") "parent" (He.fAd K ("Wood", some "parent")) := He.meth_ok (T.fct 137 rfl)
theorem Tx.M_Wood_next_child (T : Tx K mg) : Meth K (He.ga K "Wood") "next_child" (He.fAd K ("Wood", some "next_child")) := He.meth_ok (T.fct 138 rfl)
theorem Tx.M_Wood_children (T : Tx K mg) : Meth K (He.ga K "Wood") "children" (He.fAd K ("Wood", some "children")) := He.meth_ok (T.fct 139 rfl)
theorem Tx.M_Wood_child (T : Tx K mg) : Meth K (He.ga K "Wood") "child" (He.fAd K ("Wood", some "child")) := He.meth_ok (T.fct 140 rfl)
theorem Tx.M_Wood_which (T : Tx K mg) : Meth K (He.ga K "Wood") "which" (He.fAd K ("Wood", some "which")) := He.meth_ok (T.fct 141 rfl)
theorem Tx.M_Wood_room (T : Tx K mg) : Meth K (He.ga K "Wood") "room" (He.fAd K ("Wood", some "room")) := He.meth_ok (T.fct 142 rfl)
theorem Tx.g_Marked (T : Tx K mg) : mg "Marked" = some (.ref (He.ga K "Marked")) := T.glo 143 rfl
theorem Tx.k_Marked (T : Tx K mg) : Cls K (He.ga K "Marked") := He.cls_ok (T.fct 144 rfl)
theorem Tx.mk_Marked (T : Tx K mg) : Mk K (He.ga K "Marked") (He.fAd K ("Marked", some "__init__")) := He.mkr_ok (T.fct 145 rfl)
theorem Tx.n_Marked_ground (T : Tx K mg) : NoAttr K (He.ga K "Marked") "ground" := He.noat_ok (T.fct 146 rfl)
theorem Tx.n_Marked_marks (T : Tx K mg) : NoAttr K (He.ga K "Marked") "marks" := He.noat_ok (T.fct 147 rfl)
theorem Tx.M_Marked_init (T : Tx K mg) : Meth K (He.ga K "Marked") "__init__" (He.fAd K ("Marked", some "__init__")) := He.meth_ok (T.fct 148 rfl)
theorem Tx.M_Marked_wood (T : Tx K mg) : Meth K (He.ga K "Marked") "wood" (He.fAd K ("Marked", some "wood")) := He.meth_ok (T.fct 149 rfl)
theorem Tx.M_Marked_sign (T : Tx K mg) : Meth K (He.ga K "Marked") "sign" (He.fAd K ("Marked", some "sign")) := He.meth_ok (T.fct 150 rfl)
theorem Tx.M_Marked_children_by (T : Tx K mg) : Meth K (He.ga K "Marked") "children_by" (He.fAd K ("Marked", some "children_by")) := He.meth_ok (T.fct 151 rfl)
theorem Tx.M_Marked_child_by (T : Tx K mg) : Meth K (He.ga K "Marked") "child_by" (He.fAd K ("Marked", some "child_by")) := He.meth_ok (T.fct 152 rfl)
theorem Tx.M_Marked_path (T : Tx K mg) : Meth K (He.ga K "Marked") "path" (He.fAd K ("Marked", some "path")) := He.meth_ok (T.fct 153 rfl)
theorem Tx.M_Marked_count (T : Tx K mg) : Meth K (He.ga K "Marked") "count" (He.fAd K ("Marked", some "count")) := He.meth_ok (T.fct 154 rfl)
theorem Tx.M_Marked_room (T : Tx K mg) : Meth K (He.ga K "Marked") "room" (He.fAd K ("Marked", some "room")) := He.meth_ok (T.fct 155 rfl)
theorem Tx.exb (T : Tx K mg) : exB K = true := by
  have h := T.more
  unfold exL at h
  first | exact h | (simp only [Bool.and_eq_true] at h; exact h.1)
theorem Tx.tk__law_refused_right (_ : Tx K mg) : ((He.cT K ("_law_refused_right", none)).2, ((envOfC "_law_refused_right" (defScope (top 52)) 0 0 .none).qual ++ "<lambda>" : Str)) ∈ tK K := List.mem_singleton.mpr rfl
theorem Tx.tu__law_refused_right (_ : Tx K mg) : ∀ p ∈ tK K, p.1 = (He.cT K ("_law_refused_right", none)).2 → p.2 = ((envOfC "_law_refused_right" (defScope (top 52)) 0 0 .none).qual ++ "<lambda>" : Str) := fun p hp _ => by rw [List.mem_singleton.mp hp]
end
end Tw

set_option maxHeartbeats 4000000
namespace Tw
open PySem PySem.Spec PyProof.Rows L2 LamX
/-! ### told(lambda: ..) -/
/-- what is wished of a refusal: its class's name is told -/
def EW (K : PySem.W.Frag) (T : List (Addr × Str)) (Q : VK) : XK := fun cls d H => ∃ x ∈ seven, cls = .ref (He.ga K x) ∧ d = none ∧ ∀ H', Xt T H H' → Q (.str x) H'
/-- the word of the exception -/
def spWord (K : PySem.W.Frag) (T : List (Addr × Str)) : Addr × Obj → List V → Hp → VK → Prop := fun p vs H Q => ∃ x ∈ seven, vs = [.ref p.1] ∧ Zc (.ref (He.ga K x)) none p.2 ∧ (∃ us, p.2.data = .fields us) ∧ ∀ H', Xt T H H' → Q (.str x) H'
/-- the context of told's frame -/
abbrev toldX (X : Cx) (Ng : List Str) (sg : Scope) (g : Addr) (cdg : Value) (s : Shared) (H : Hp) : Cx := cxOf CX0 X.prog X.w X.K X.mg X.base Ng "_law_told" sg g cdg X.A X.stack s H E0
section
variable {X : Cx}
theorem told_gen {Tt : List (Addr × Str)} {g gW c Pt : Addr} {k : Nat} {pg : Arguments} {sg : Scope} {fdT fdW : FuncData} {params : Arguments} {body : Expr} {scope : Scope} {t : XK → TE} {p lpos pos : Pos}
    {p1 p2 p3 p4 p5 p6 p7 p8 p9 p10 : Pos} (hg : Gl X "_law_told") (hm : X.mg "_law_told" = some (.ref g))
    (FT : FunD X.K "_law_told" "_law_told" pg [.Try [.Return (some (.Call (.Name "_law_deed" p1) [] [] p2)) p3] [.ExceptHandler (some (.Name "TerseError" p4)) (some "_law_e") [.Return (some (.Call (.Name "_law_word" p5) [.Name "_law_e" p6] [] p7)) p8] p9] [] [] p10] sg [] [] g fdT)
    (BT : Binds X.K fdT ["_law_deed"] []) (ST : FnScope ["_law_deed", "_law_e"] ["_law_deed"] sg) (l1 : sg.names.lookup ("_law_deed" : Str) = some .local) (l2 : sg.names.lookup ("_law_e" : Str) = some .local) (l3 : sg.names.lookup ("TerseError" : Str) = some .globalImplicit) (l4 : sg.names.lookup ("_law_word" : Str) = some .globalImplicit)
    (gE : X.mg "TerseError" = some (.ref (He.ga X.K "TerseError"))) (gW1 : X.mg "_law_word" = some (.ref gW)) (kW : PySem.W.keepIn X.K (.ref gW) = true) (BW : Binds X.K fdW ["_law_e"] []) (FW : FnHp X.prog X.w X.K X.mg X.base 1 gW fdW ["_law_e"] (spWord X.K Tt)) (xB : exB X.K = true)
    (TB : TabB X.base X.mg c Pt) (hcode : X.env.code = .ref c) (hmT : (Pt, X.env.qual ++ "<lambda>") ∈ Tt) (hu : ∀ p ∈ Tt, p.1 = Pt → p.2 = X.env.qual ++ "<lambda>") (hr : Room (k + 4) X.A) (L : LamS X.env.scope scope) (hdef : defaultsOf params X.env = ([], []))
    (hbind : ∀ (q : Str) (cl : List (Str × Addr)) (pm cv ctv : Value), bindArgs (PySem.W.kla_fn "<lambda>" q params body scope cl pm cv ctv) ⟨[], []⟩ = pure [])
    (hbody : ∀ (A : Around) (outer : List Env) (s : Shared) (H : Hp) (E : XK) (f c' : Addr), Room (k + 2) (A.deeper (lamEnv X scope s.heap.objs.size f c')) → PE (lamN X A outer s H E scope f c') body (t E)) :
    PE X (.Call (.Name "_law_told" p) [.Lambda params body scope lpos] [] pos) (fun σ H Q => Tabs Tt H ∧ ∀ H1, ExtN H H1 → Tabs Tt H1 → t (EW X.K Tt Q) σ H1 Q) := by
  refine ⟨fun pins s σ H Q I ⟨hT, h⟩ => ?_⟩
  obtain ⟨oc, od, dV, kV, doc, pm, an, cdv, ct, osl, rfl, lk, hcg, hD, _⟩ := FT.ex
  have edV : dV = .none := by
    rcases hD with ⟨_, e⟩ | ⟨e, _⟩
    · exact e
    · exact absurd rfl e
  refine wpAny_Call_Name_kw (ld_glob I hg hm ?_ (by decide))
  refine PySem.W.callWith_K (h₀ := X.base) I.ok.mod.kin FT.kp ?_ (by rfl) (by rfl)
  show wpAny _ _ (spliced ((false, eval (.Lambda params body scope lpos) X.env) :: backTo pos (starEach [] X.env))) _ _ s
  refine Calls.spliced_cons (lam_make2 I TB hcode hmT hu hT hdef (L.has I.ok) fun f c' pm' ctv H1 s' I1 eN T1 hf hfn hfr hco => ?_)
  refine Calls.spliced_nil ⟨I1.kIn, ?_⟩
  have b := BT s' [.ref f] I1.kIn rfl
  have rc : codeAny (model X.prog X.w) X.A (.call (.ref g) ⟨[.ref f], []⟩) (CR CX0 X.stack X.prog X.w H1 s' Q E0) s' := by
    refine run_ofS (k := k + 3) (N := ["_law_deed", "_law_e"]) (ps := ["_law_deed"]) (us := [.ref f]) (vs := [.ref f]) lk hcg ST hr I1.env0 b (.cons rfl .nil) rfl fun hr' => ?_
    have word : ∀ (a : Addr) (oe : Obj) (cls : Value) (d : Option Addr) (pn : List (Addr × Obj)), L2N.Zn cls d oe → (∃ vs, oe.data = .fields vs) →
        PSs ((toldX X ["_law_deed", "_law_e"] sg g cdv s' H1).suite a ((a, oe) :: pn)) [.Return (some (.Call (.Name "_law_word" p5) [.Name "_law_e" p6] [] p7)) p8]
          (fun D σ H => (∃ σ0 : L2.St, σ = σ0.set 1 (some (.ref a))) ∧ ∃ x ∈ seven, cls = .ref (He.ga X.K x) ∧ d = none ∧ ∀ H', Xt Tt H H' → D.rt (.str x) H') := by
      intro a oe cls d pn hz hfs
      have hot : L2H.Hot1 ((toldX X ["_law_deed", "_law_e"] sg g cdv s' H1).suite a ((a, oe) :: pn)).A (a, oe) := by
        obtain ⟨vs, hv⟩ := hfs
        exact ⟨rfl, vs, hv, hz.2.2 vs hv⟩
      have hp := pss_one (ps_ret (pos := p8) (pe_callHp (X := (toldX X ["_law_deed", "_law_e"] sg g cdv s' H1).suite a ((a, oe) :: pn)) (x := "_law_word") (q := p5) (pos := p7) (p := (a, oe)) FW
        (L2H.RoomH.mono (k := k + 3) ⟨hr'.dp, hr'.un⟩ (by omega)) hot List.mem_cons_self (show sg.names.lookup ("_law_word" : Str) = _ from l4) gW1 kW BW (pa_cons (pe_var (i := 1) (pos := p6) rfl (.inl l2)) pa_nil) (by decide)))
      refine ⟨fun pins s σ H D I ⟨⟨σ0, h1⟩, x, hx, e1, e2, h2⟩ => hp.run pins s σ H D I ?_⟩
      have hl : σ.length = 2 := I.len
      have h1 : σ[1]? = some (some (.ref a)) := by
        rw [h1] at hl ⊢
        rw [List.length_set] at hl
        rw [List.getElem?_set_self (by omega)]
      refine ⟨.ref a, h1, x, hx, rfl, ?_, hfs, h2⟩
      rw [← e1, ← e2]
      exact hz.zc
    refine ⟨_, PSs.nox (pss_one (L2N.ps_try_as (X := (toldX X ["_law_deed", "_law_e"] sg g cdv s' H1).nox) (c := .ref (He.ga X.K "TerseError")) (i := 1) (Wout := fun _ _ _ _ => False)
      (tb := fun W D σ' H' => ∃ Ech : XK, (∀ cls d σ' H', Ech cls d H' → W cls d σ' H') ∧ σ'[0]? = some (some (.ref f)) ∧ H' c' = some (CodeO c' (X.env.qual ++ "<lambda>")) ∧ t Ech σ H' D.rt)
      rfl rfl ST.nd rfl l2 ⟨l3, by decide, .inl gE⟩ (fun _ _ x => by obtain ⟨_, _, _, _, _, _, _, _, _, _, _, _, _, _, _, _, z⟩ := x; exact z.elim) (fun W pn xe tk _ => ?_) word)), ?_⟩
    · refine ⟨fun pins s2 σ2 H2 D I2 ⟨Ech, hW, h1, h2, h3⟩ => ?_⟩
      have hp := act (pn := pn) (xe := xe) (W := W) (E := Ech) (tb := t Ech) (p1 := p1) (p2 := p2) (a := "_law_deed") (i := 0) (Ng := ["_law_deed", "_law_e"]) (CXg := CX0) (Eg := E0) (qg := "_law_told") (sg := sg) (g := g) (cdg := cdv) I1 L hf hfn hfr (hbind _ _ _ _ _) tk hW hr'
        (fun A outer s H hr2 => hbody A outer s H Ech f c' hr2) rfl (.inl l1) (by decide) (by decide)
      exact (pss_one (ps_ret (pos := p3) hp)).run pins s2 σ2 H2 D I2 ⟨h1, h2, h3⟩
    · refine ⟨EW X.K Tt Q, fun cls d σ2 H2 ⟨x, hx, e1, e2, h2⟩ => ?_, rfl, hco, h H1 eN T1⟩
      refine ⟨true, by rw [e1]; exact (bad_of xB hx).t, fun _ a na => ?_, fun z => by cases z⟩
      exact ⟨⟨σ2, rfl⟩, x, hx, e1, e2, h2⟩
  refine wpAny_call (codeAny_mono rc fun r s2 hq => ?_)
  cases r with
  | error e => exact (show False from hq).elim
  | ok fl =>
    cases fl with
    | ret u => exact I1.after hq
    | next => exact False.elim hq
    | brk => exact False.elim hq
    | cont => exact False.elim hq
end
end Tw

set_option maxHeartbeats 4000000
namespace Tw
open PySem PySem.Spec PyProof.Rows L2 LamX
/-! ### comprehensions whose elements change nothing that stood -/
def Yy (y : Nat → V → Prop) : Nat → Hp → V → Hp → Prop := fun i H x H' => H' = H ∧ y i x
def kept (n : Nat) (f : Nat → Bool) (r : Nat → V) : List V := ((List.range n).filter f).map r
theorem kept_yes {n : Nat} {f : Nat → Bool} {r : Nat → V} (h : f n = true) : kept (n + 1) f r = kept n f r ++ [r n] := by
  unfold kept
  rw [List.range_succ, List.filter_append, List.map_append, List.filter_cons, if_pos h]
  rfl
theorem kept_no {n : Nat} {f : Nat → Bool} {r : Nat → V} (h : f n = false) : kept (n + 1) f r = kept n f r := by
  unfold kept
  rw [List.range_succ, List.filter_append, List.map_append, List.filter_cons, if_neg (by rw [h]; decide)]
  exact List.append_nil _
theorem kept_len (n : Nat) (f : Nat → Bool) (r : Nat → V) : (kept n f r).length ≤ n := by
  unfold kept
  rw [List.length_map]
  exact Nat.le_trans (List.length_filter_le _ _) (by rw [List.length_range]; exact Nat.le_refl _)
theorem kept_all (n : Nat) (r : Nat → V) : kept n (fun _ => true) r = (List.range n).map r := by
  unfold kept
  rw [List.filter_eq_self.mpr fun _ _ => rfl]
section
variable {lo : Prop} {T : List (Addr × Str)} {J : It} {n : Nat} {G : Hp → Prop} {y : Nat → V → Prop} {te : TE} {tt : TT} {j : Nat} {σ : L2.St} {H1 : Hp} {D : Addr} {Qd : Hp → Prop} {f : Nat → Bool} {r : Nat → V}
theorem wipe1 (σ : L2.St) (j : Nat) (x : Option V) : wipe ((wipe σ [j]).set j x) [j] = wipe σ [j] := by
  show ((σ.set j none).set j x).set j none = σ.set j none
  rw [List.set_set, List.set_set]
/-- with a test -/
theorem lcFg (w : Walk J n G (Yy y)) (hD : H1 D = none) (hn : n ≤ 1000000) (hG : ∀ H', Xg lo T H1 H' → G H') (f : Nat → Bool) (r : Nat → V)
    (ht : ∀ i x H', i < n → y i x → Xg lo T H1 H' → ∀ Q : Bool → Hp → Prop, (∀ H4, Xg lo T H' H4 → Q (f i) H4) → tt ((wipe σ [j]).set j (some x)) H' Q)
    (he : ∀ i x H', i < n → y i x → f i = true → Xg lo T H1 H' → ∀ Q : VK, (∀ H4, Xg lo T H' H4 → Q (r i) H4) → te ((wipe σ [j]).set j (some x)) H' Q)
    (hd : ∀ H', Xg lo T H1 H' → H' D = some (.lst (kept n f r)) → Qd H') :
    ∃ W : Nat → Nat → Hp → Prop, (∃ m, W 0 m (upd H1 D (.lst []))) ∧ ∀ i m H, W i m H →
      (J.stop i H ∧ Qd H) ∨ (J.go i H ∧ ∃ Nx : Hp → Prop, (∀ H', Nx H' → ∃ m', m' < m ∧ W (i + 1) m' H') ∧ ∀ x H', J.yld i H x H' → gName j x (wipe σ [j]) H' fun σ2 H2 => wipe σ2 [j] = wipe σ [j] ∧ tt σ2 H2 fun b H3 =>
        if b = true then te σ2 H3 fun y H4 => ∃ acc, H4 D = some (.lst acc) ∧ acc.length < sizeLine ∧ Nx (upd H4 D (.lst (acc ++ [y]))) else Nx H3) := by
  have hz : ∀ i, i < n → (kept i f r).length < sizeLine := fun i hi => Nat.lt_of_le_of_lt (Nat.le_trans (kept_len i f r) (Nat.le_trans (Nat.le_of_lt hi) hn)) (by decide)
  refine lc_it w (fun i H => Xg lo T H1 H ∧ H D = some (.lst (kept i f r))) ⟨Xg.new hD, by rw [upd_same]; rfl⟩ (fun i H _ p => hG H p.1) (fun i x H H' hi p hy => ?_) fun H p => hd H p.1 p.2
  obtain ⟨eH, hy⟩ := hy
  subst eH
  refine ⟨wipe1 σ j _, ht i x H' hi hy p.1 _ fun H4 x4 => ?_⟩
  cases hf : f i with
  | true =>
    refine iteT (he i x H4 hi hy hf (p.1.trans x4) _ fun H5 x5 => ?_)
    have e5 := (x4.trans x5).lst p.2
    refine ⟨kept i f r, e5, hz i hi, ((p.1.trans x4).trans x5).mut (.of hD) e5, ?_⟩
    rw [upd_same, kept_yes hf]
  | false =>
    refine iteF ⟨p.1.trans x4, ?_⟩
    rw [kept_no hf]
    exact x4.lst p.2
/-- without one -/
theorem lcPg (w : Walk J n G (Yy y)) (hD : H1 D = none) (hn : n ≤ 1000000) (hG : ∀ H', Xg lo T H1 H' → G H') (r : Nat → V)
    (he : ∀ i x H', i < n → y i x → Xg lo T H1 H' → ∀ Q : VK, (∀ H4, Xg lo T H' H4 → Q (r i) H4) → te ((wipe σ [j]).set j (some x)) H' Q)
    (hd : ∀ H', Xg lo T H1 H' → H' D = some (.lst ((List.range n).map r)) → Qd H') :
    ∃ W : Nat → Nat → Hp → Prop, (∃ m, W 0 m (upd H1 D (.lst []))) ∧ ∀ i m H, W i m H →
      (J.stop i H ∧ Qd H) ∨ (J.go i H ∧ ∃ Nx : Hp → Prop, (∀ H', Nx H' → ∃ m', m' < m ∧ W (i + 1) m' H') ∧ ∀ x H', J.yld i H x H' → gName j x (wipe σ [j]) H' fun σ2 H2 => wipe σ2 [j] = wipe σ [j] ∧ tYes σ2 H2 fun b H3 =>
        if b = true then te σ2 H3 fun y H4 => ∃ acc, H4 D = some (.lst acc) ∧ acc.length < sizeLine ∧ Nx (upd H4 D (.lst (acc ++ [y]))) else Nx H3) :=
  lcFg w hD hn hG (fun _ => true) r (fun i x H' _ _ _ Q q => q H' Xg.refl) (fun i x H' hi hy _ => he i x H' hi hy) fun H' x' e => hd H' x' (by rw [e, kept_all])
theorem lcF (w : Walk J n G (Yy y)) (hD : H1 D = none) (hn : n ≤ 1000000) (hG : ∀ H', Xg True T H1 H' → G H') (f : Nat → Bool) (r : Nat → V)
    (ht : ∀ i x H', i < n → y i x → Xg True T H1 H' → ∀ Q : Bool → Hp → Prop, (∀ H4, Xg True T H' H4 → Q (f i) H4) → tt ((wipe σ [j]).set j (some x)) H' Q)
    (he : ∀ i x H', i < n → y i x → f i = true → Xg True T H1 H' → ∀ Q : VK, (∀ H4, Xg True T H' H4 → Q (r i) H4) → te ((wipe σ [j]).set j (some x)) H' Q)
    (hd : ∀ H', Xg True T H1 H' → H' D = some (.lst (kept n f r)) → Qd H') :
    ∃ W : Nat → Nat → Hp → Prop, (∃ m, W 0 m (upd H1 D (.lst []))) ∧ ∀ i m H, W i m H →
      (J.stop i H ∧ Qd H) ∨ (J.go i H ∧ ∃ Nx : Hp → Prop, (∀ H', Nx H' → ∃ m', m' < m ∧ W (i + 1) m' H') ∧ ∀ x H', J.yld i H x H' → gName j x (wipe σ [j]) H' fun σ2 H2 => wipe σ2 [j] = wipe σ [j] ∧ tt σ2 H2 fun b H3 =>
        if b = true then te σ2 H3 fun y H4 => ∃ acc, H4 D = some (.lst acc) ∧ acc.length < sizeLine ∧ Nx (upd H4 D (.lst (acc ++ [y]))) else Nx H3) := lcFg w hD hn hG f r ht he hd
theorem lcP (w : Walk J n G (Yy y)) (hD : H1 D = none) (hn : n ≤ 1000000) (hG : ∀ H', Xg True T H1 H' → G H') (r : Nat → V)
    (he : ∀ i x H', i < n → y i x → Xg True T H1 H' → ∀ Q : VK, (∀ H4, Xg True T H' H4 → Q (r i) H4) → te ((wipe σ [j]).set j (some x)) H' Q)
    (hd : ∀ H', Xg True T H1 H' → H' D = some (.lst ((List.range n).map r)) → Qd H') :
    ∃ W : Nat → Nat → Hp → Prop, (∃ m, W 0 m (upd H1 D (.lst []))) ∧ ∀ i m H, W i m H →
      (J.stop i H ∧ Qd H) ∨ (J.go i H ∧ ∃ Nx : Hp → Prop, (∀ H', Nx H' → ∃ m', m' < m ∧ W (i + 1) m' H') ∧ ∀ x H', J.yld i H x H' → gName j x (wipe σ [j]) H' fun σ2 H2 => wipe σ2 [j] = wipe σ [j] ∧ tYes σ2 H2 fun b H3 =>
        if b = true then te σ2 H3 fun y H4 => ∃ acc, H4 D = some (.lst acc) ∧ acc.length < sizeLine ∧ Nx (upd H4 D (.lst (acc ++ [y]))) else Nx H3) := lcPg w hD hn hG r he hd
theorem lcFs (w : Walk J n G (Yy y)) (hD : H1 D = none) (hn : n ≤ 1000000) (hG : ∀ H', Xg False T H1 H' → G H') (f : Nat → Bool) (r : Nat → V)
    (ht : ∀ i x H', i < n → y i x → Xg False T H1 H' → ∀ Q : Bool → Hp → Prop, (∀ H4, Xg False T H' H4 → Q (f i) H4) → tt ((wipe σ [j]).set j (some x)) H' Q)
    (he : ∀ i x H', i < n → y i x → f i = true → Xg False T H1 H' → ∀ Q : VK, (∀ H4, Xg False T H' H4 → Q (r i) H4) → te ((wipe σ [j]).set j (some x)) H' Q)
    (hd : ∀ H', Xg False T H1 H' → H' D = some (.lst (kept n f r)) → Qd H') :
    ∃ W : Nat → Nat → Hp → Prop, (∃ m, W 0 m (upd H1 D (.lst []))) ∧ ∀ i m H, W i m H →
      (J.stop i H ∧ Qd H) ∨ (J.go i H ∧ ∃ Nx : Hp → Prop, (∀ H', Nx H' → ∃ m', m' < m ∧ W (i + 1) m' H') ∧ ∀ x H', J.yld i H x H' → gName j x (wipe σ [j]) H' fun σ2 H2 => wipe σ2 [j] = wipe σ [j] ∧ tt σ2 H2 fun b H3 =>
        if b = true then te σ2 H3 fun y H4 => ∃ acc, H4 D = some (.lst acc) ∧ acc.length < sizeLine ∧ Nx (upd H4 D (.lst (acc ++ [y]))) else Nx H3) := lcFg w hD hn hG f r ht he hd
theorem lcPs (w : Walk J n G (Yy y)) (hD : H1 D = none) (hn : n ≤ 1000000) (hG : ∀ H', Xg False T H1 H' → G H') (r : Nat → V)
    (he : ∀ i x H', i < n → y i x → Xg False T H1 H' → ∀ Q : VK, (∀ H4, Xg False T H' H4 → Q (r i) H4) → te ((wipe σ [j]).set j (some x)) H' Q)
    (hd : ∀ H', Xg False T H1 H' → H' D = some (.lst ((List.range n).map r)) → Qd H') :
    ∃ W : Nat → Nat → Hp → Prop, (∃ m, W 0 m (upd H1 D (.lst []))) ∧ ∀ i m H, W i m H →
      (J.stop i H ∧ Qd H) ∨ (J.go i H ∧ ∃ Nx : Hp → Prop, (∀ H', Nx H' → ∃ m', m' < m ∧ W (i + 1) m' H') ∧ ∀ x H', J.yld i H x H' → gName j x (wipe σ [j]) H' fun σ2 H2 => wipe σ2 [j] = wipe σ [j] ∧ tYes σ2 H2 fun b H3 =>
        if b = true then te σ2 H3 fun y H4 => ∃ acc, H4 D = some (.lst acc) ∧ acc.length < sizeLine ∧ Nx (upd H4 D (.lst (acc ++ [y]))) else Nx H3) := lcPg w hD hn hG r he hd
end
section
variable {lo : Prop} {T : List (Addr × Str)} {J : It} {n : Nat} {G : Hp → Prop} {y : Nat → V → Prop} {te : TE} {j : Nat} {σ : L2.St} {H1 : Hp} {D : Addr} {Qd : Hp → Prop} {r : Nat → V}
/-- without a test, with what is known of the heap at each item -/
theorem lcI (R : Nat → Hp → Prop) (w : Walk J n G (Yy y)) (hD : H1 D = none) (hn : n ≤ 1000000) (hG : ∀ i H', Xg lo T H1 H' → R i H' → G H') (h0 : R 0 H1) (hR : ∀ i H xs, Xg lo T H1 H → R i H → R i (upd H D (.lst xs))) (r : Nat → V)
    (he : ∀ i x H', i < n → y i x → Xg lo T H1 H' → R i H' → ∀ Q : VK, (∀ H4, Xg lo T H' H4 → R (i + 1) H4 → Q (r i) H4) → te ((wipe σ [j]).set j (some x)) H' Q)
    (hd : ∀ H', Xg lo T H1 H' → R n H' → H' D = some (.lst ((List.range n).map r)) → Qd H') :
    ∃ W : Nat → Nat → Hp → Prop, (∃ m, W 0 m (upd H1 D (.lst []))) ∧ ∀ i m H, W i m H →
      (J.stop i H ∧ Qd H) ∨ (J.go i H ∧ ∃ Nx : Hp → Prop, (∀ H', Nx H' → ∃ m', m' < m ∧ W (i + 1) m' H') ∧ ∀ x H', J.yld i H x H' → gName j x (wipe σ [j]) H' fun σ2 H2 => wipe σ2 [j] = wipe σ [j] ∧ tYes σ2 H2 fun b H3 =>
        if b = true then te σ2 H3 fun y H4 => ∃ acc, H4 D = some (.lst acc) ∧ acc.length < sizeLine ∧ Nx (upd H4 D (.lst (acc ++ [y]))) else Nx H3) := by
  refine lc_it w (fun i H => Xg lo T H1 H ∧ R i H ∧ H D = some (.lst ((List.range i).map r))) ⟨Xg.new hD, hR 0 H1 [] .refl h0, by rw [upd_same]; rfl⟩ (fun i H _ p => hG i H p.1 p.2.1) (fun i x H H' hi p hy => ?_) fun H p => hd H p.1 p.2.1 p.2.2
  obtain ⟨eH, hy⟩ := hy
  subst eH
  refine ⟨wipe1 σ j _, ?_⟩
  unfold tYes
  refine iteT ?_
  refine he i x _ hi hy p.1 p.2.1 _ fun H5 x5 r5 => ?_
  have e5 := x5.lst p.2.2
  refine ⟨_, e5, ?_, (p.1.trans x5).mut (.of hD) e5, hR (i + 1) H5 _ (p.1.trans x5) r5, ?_⟩
  · rw [List.length_map, List.length_range]
    exact Nat.lt_of_lt_of_le hi (Nat.le_trans hn (by decide))
  · rw [upd_same, List.range_succ, List.map_append]
    rfl
end
section
variable {K : PySem.W.Frag} {a : Addr} {xs : List V}
theorem w_list : Walk (Itl K a) xs.length (fun H => SqL K H a xs) (Yy fun i x => xs[i]? = some x) := walk_list
theorem w_range {lo : Int} {n : Nat} : Walk (Itr lo n) n (fun _ => True) (Yy fun i x => x = .int (lo + i)) := walk_range
theorem w_rangeC {lo c : Int} {n : Nat} : Walk (Itc lo c n) n (fun _ => True) (Yy fun i x => x = .int (lo + (i : Nat) * c)) := walk_rangeC
end
theorem small_up {a b c : Int} (ha : 0 ≤ a ∧ a ≤ 1000000) (hb : 0 ≤ b ∧ b ≤ 1000000) (hc : 1 ≤ c ∧ c ≤ 1000000) : Builtin.Range.small a b c = true := by
  unfold Builtin.Range.small Builtin.Range.rangeSize
  have h1 : (b - a - 1) / c ≤ b - a - 1 ∨ b - a - 1 < 0 := by
    by_cases h : b - a - 1 < 0
    · exact .inr h
    · exact .inl (Int.ediv_le_self _ (by omega))
  have h2 : 0 ≤ (b - a - 1) / c ∨ b - a - 1 < 0 := by
    by_cases h : b - a - 1 < 0
    · exact .inr h
    · exact .inl (Int.ediv_nonneg (by omega) (by omega))
  simp only [Builtin.Range.rangeFitsLong, Bool.and_eq_true, Bool.or_eq_true, decide_eq_true_eq, beq_iff_eq, show c > 0 by omega, if_true]
  split <;> omega
/-! ### texts by their codes -/
def S (l : List Nat) : Str := ⟨l.toArray⟩
theorem S_app (a b : List Nat) : S a ++ S b = S (a ++ b) := by
  show (⟨a.toArray ++ b.toArray⟩ : Str) = ⟨(a ++ b).toArray⟩
  rw [List.append_toArray]
theorem S_len (l : List Nat) : (S l).length = l.length := by
  show l.toArray.size = l.length
  exact List.size_toArray
theorem S_inj {a b : List Nat} (h : S a = S b) : a = b := by
  have e : (S a).cps = (S b).cps := congrArg Str.cps h
  have e2 : a.toArray = b.toArray := e
  exact congrArg Array.toList e2
theorem S_of (z : Str) : z = S z.cps.toList := by
  cases z
  rfl
theorem w_str {l : List Nat} : Walk (Its (S l)) l.length (fun _ => True) (Yy fun i x => ∃ c, l[i]? = some c ∧ x = .str (S [c])) := by
  have h := walk_str (z := S l)
  have e : (S l).cps.size = l.length := S_len l
  rw [e] at h
  refine h.mono (fun _ _ => trivial) fun i H x H' _ _ y => ⟨y.1, ?_⟩
  obtain ⟨c, h1, h2⟩ := y.2
  exact ⟨c, by simpa [S] using h1, h2⟩
/-- bits as a text -/
def bc (b : Bool) : Nat := if b then 49 else 48
def sb (l : List Bool) : Str := S (l.map bc)
theorem sb_app (a b : List Bool) : sb a ++ sb b = sb (a ++ b) := by
  unfold sb
  rw [S_app, List.map_append]
theorem sb_len (l : List Bool) : (sb l).length = l.length := by
  unfold sb
  rw [S_len, List.length_map]
theorem bc_inj {a b : Bool} (h : bc a = bc b) : a = b := by
  cases a <;> cases b <;> first | rfl | cases h
theorem sb_inj {a b : List Bool} (h : sb a = sb b) : a = b := by
  have e := S_inj h
  exact (List.map_inj_right (f := bc) fun x y => bc_inj).mp e
theorem sb_nil : (Str.ofString "" : Str) = sb [] := by decide +kernel
theorem sb_0 : (Str.ofString "0" : Str) = sb [false] := by decide +kernel
theorem sb_1 : (Str.ofString "1" : Str) = sb [true] := by decide +kernel
/-! ### slices -/
theorem cut_S (l : List Nat) (i j : Nat) : cutS (S l) (some (i : Int)) (some (j : Int)) = S ((l.take j).drop i) := by
  unfold cutS
  rw [HT.sIx_nat, HT.sIx_nat, S_len]
  show (⟨_⟩ : Str) = ⟨_⟩
  congr 2
  show ((l.drop (min i l.length)).take (min j l.length - min i l.length)) = _
  rw [List.drop_take]
  by_cases hi : i ≤ l.length
  · rw [Nat.min_eq_left hi]
    by_cases hj : j ≤ l.length
    · rw [Nat.min_eq_left hj]
    · rw [Nat.min_eq_right (by omega), List.take_of_length_le (by rw [List.length_drop]; omega), List.take_of_length_le (by rw [List.length_drop]; omega)]
  · rw [List.drop_eq_nil_of_le (by omega : l.length ≤ min i l.length), List.drop_eq_nil_of_le (by omega : l.length ≤ i)]
    simp
theorem cut_sb (l : List Bool) (i j : Nat) : cutS (sb l) (some (i : Int)) (some (j : Int)) = sb ((l.take j).drop i) := by
  unfold sb
  rw [cut_S, List.map_drop, List.map_take]
end Tw

set_option maxHeartbeats 4000000
namespace Tw
open PySem PySem.Spec PyProof.Rows L2 LamX
/-! ### how many bits a number needs -/
def nd (n : Nat) : Nat := if h : n = 0 then 0 else nd (n / 2) + 1
theorem nd_zero : nd 0 = 0 := by rw [nd]; rfl
theorem nd_pos {n : Nat} (h : 0 < n) : nd n = nd (n / 2) + 1 := by
  rw [nd, dif_neg (Nat.ne_of_gt h)]
theorem nd_le : ∀ (w n : Nat), nd n ≤ w ↔ n < 2 ^ w
  | 0, n => by
    rcases Nat.eq_zero_or_pos n with h | h
    · subst h; rw [nd_zero]; decide
    · rw [nd_pos h]; simp; omega
  | w + 1, n => by
    rcases Nat.eq_zero_or_pos n with h | h
    · subst h; rw [nd_zero]; simp [Nat.pow_pos]
    · rw [nd_pos h, Nat.pow_succ]
      have := nd_le w (n / 2)
      omega
theorem nd_lo2 {n : Nat} (h : 0 < n) : 0 < nd n := by rw [nd_pos h]; omega
theorem nd_le_self (n : Nat) : nd n ≤ n := (nd_le n n).mpr Nat.lt_two_pow_self
/-! ### a number in so many bits -/
def bn (n : Nat) : Nat → List Bool
  | 0 => []
  | w + 1 => bn (n / 2) w ++ [n % 2 == 1]
theorem bn_len : ∀ (w n : Nat), (bn n w).length = w
  | 0, _ => rfl
  | w + 1, n => by rw [bn, List.length_append, bn_len w]; rfl
theorem bn_front : ∀ (w n : Nat), bn n (w + 1) = (n / 2 ^ w % 2 == 1) :: bn n w
  | 0, n => by simp [bn]
  | w + 1, n => by
    rw [bn, bn_front w (n / 2), bn, List.cons_append, Nat.div_div_eq_div_mul, Nat.pow_succ, Nat.mul_comm]
/-- the number that bits tell -/
def vb (l : List Bool) : Nat := l.foldl (fun a b => 2 * a + b.toNat) 0
theorem vb_snoc (l : List Bool) (b : Bool) : vb (l ++ [b]) = 2 * vb l + b.toNat := by
  unfold vb
  rw [List.foldl_append]
  rfl
theorem vb_bn : ∀ (w n : Nat), vb (bn n w) = n % 2 ^ w
  | 0, n => by simp [bn, vb, Nat.mod_one]
  | w + 1, n => by
    rw [bn, vb_snoc, vb_bn w (n / 2)]
    have e : (n % 2 == 1).toNat = n % 2 := by
      rcases Nat.mod_two_eq_zero_or_one n with h | h <;> rw [h] <;> rfl
    rw [e, Nat.pow_succ, Nat.mul_comm (2 ^ w) 2, Nat.mod_mul]
    omega
theorem bn_vb_lt {w n : Nat} (h : n < 2 ^ w) : vb (bn n w) = n := by rw [vb_bn, Nat.mod_eq_of_lt h]
theorem vb_from : ∀ (l : List Bool) (a : Nat), l.foldl (fun a b => 2 * a + b.toNat) a < (a + 1) * 2 ^ l.length
  | [], a => by simp
  | b :: r, a => by
    have h := vb_from r (2 * a + b.toNat)
    have hb : b.toNat ≤ 1 := by cases b <;> decide
    refine Nat.lt_of_lt_of_le h ?_
    rw [List.length_cons, Nat.pow_succ, Nat.mul_comm (2 ^ r.length) 2, ← Nat.mul_assoc]
    exact Nat.mul_le_mul_right _ (by omega)
theorem vb_lt (l : List Bool) : vb l < 2 ^ l.length := by
  have h := vb_from l 0
  rw [Nat.zero_add, Nat.one_mul] at h
  exact h
/-! ### the text of a bit, a sign's number -/
theorem str_bit (n : Nat) : (Str.ofString (toString ((n : Int) % 2)) : Str) = sb [n % 2 == 1] := by
  rcases Nat.mod_two_eq_zero_or_one n with h | h
  · have e : (n : Int) % 2 = 0 := by omega
    rw [e, h]
    decide +kernel
  · have e : (n : Int) % 2 = 1 := by omega
    rw [e, h]
    decide +kernel
theorem int_bit (b : Bool) : PySem.intText? (S [bc b]) = some (b.toNat : Int) := by
  cases b <;> decide +kernel
theorem toNat_lt (b : Bool) : (b.toNat : Int) ≤ 1 := by cases b <;> decide
/-! ### bits and other texts -/
def IsB (z : Str) : Prop := ∃ l, z = sb l
theorem isB_iff (l : List Nat) : IsB (S l) ↔ ∀ c ∈ l, c = 48 ∨ c = 49 := by
  constructor
  · rintro ⟨m, e⟩ c hc
    rw [S_inj e] at hc
    obtain ⟨b, _, rfl⟩ := List.mem_map.mp hc
    cases b
    · exact .inl rfl
    · exact .inr rfl
  · intro h
    refine ⟨l.map fun c => c == 49, ?_⟩
    unfold sb
    congr 1
    rw [List.map_map]
    conv => lhs; rw [← List.map_id l]
    refine List.map_congr_left fun c hc => ?_
    rcases h c hc with rfl | rfl <;> rfl
theorem signs01 : (Str.ofString "01" : Str).cps.toList = [48, 49] := by decide +kernel
theorem all_bits (l : List Nat) : ((List.range l.length).map fun i => decide (l.getD i 0 ∈ [48, 49])).all id = decide (∀ c ∈ l, c = 48 ∨ c = 49) := by
  rw [Bool.eq_iff_iff]
  simp only [List.all_eq_true, List.mem_map, List.mem_range, decide_eq_true_eq, id]
  constructor
  · intro h c hc
    obtain ⟨i, hi, rfl⟩ := List.mem_iff_getElem.mp hc
    have := h _ ⟨i, hi, rfl⟩
    rw [decide_eq_true_eq, List.getD_eq_getElem?_getD, List.getElem?_eq_getElem hi] at this
    simpa using this
  · rintro h b ⟨i, hi, rfl⟩
    rw [decide_eq_true_eq, List.getD_eq_getElem?_getD, List.getElem?_eq_getElem hi]
    simpa using h _ (List.getElem_mem hi)
/-! ### joined -/
theorem join_S : ∀ ls : List (List Nat), Txt.join (S []) (ls.map S) = S ls.flatten := by
  intro ls
  rw [show Txt.join (S []) (ls.map S) = Str.join (S []) (ls.map S) from StrLaws.glued_eq_join _ _]
  induction ls with
  | nil => rfl
  | cons a r ih =>
    cases r with
    | nil => show S a = _; rw [List.flatten_cons, List.flatten_nil, List.append_nil]
    | cons b r =>
      show S a ++ S [] ++ Str.join (S []) ((b :: r).map S) = _
      rw [ih, S_app, S_app, List.append_nil]
      rfl
theorem join_sb (ls : List (List Bool)) : Txt.join (sb []) (ls.map sb) = sb ls.flatten := by
  have e := join_S (ls.map (List.map bc))
  rw [List.map_map] at e
  rw [show (ls.map sb) = ls.map (S ∘ List.map bc) from rfl, show sb [] = S [] from rfl, e]
  unfold sb
  rw [List.map_flatten]
theorem sum_len (ls : List (List Bool)) : (ls.map sb).map Str.length = ls.map List.length := by
  rw [List.map_map]
  exact List.map_congr_left fun l _ => sb_len l
/-! ### packed -/
def pk (ns : List Nat) (w : Nat) : List Bool := (ns.map fun n => bn n w).flatten
theorem pk_len (ns : List Nat) (w : Nat) : (pk ns w).length = ns.length * w := by
  unfold pk
  induction ns with
  | nil => simp
  | cons n r ih => rw [List.map_cons, List.flatten_cons, List.length_append, ih, bn_len, List.length_cons, Nat.succ_mul]; omega
/-- the part of w bits at i -/
def part (l : List Bool) (w i : Nat) : List Bool := (l.take (i * w + w)).drop (i * w)
theorem part_pk : ∀ (ns : List Nat) (w i : Nat) (n : Nat), ns[i]? = some n → part (pk ns w) w i = bn n w
  | [], _, _, _, h => by simp at h
  | m :: r, w, 0, n, h => by
    have e : m = n := by simpa using h
    subst e
    unfold part pk
    rw [List.map_cons, List.flatten_cons, Nat.zero_mul, Nat.zero_add, List.drop_zero, List.take_append_of_le_length (by rw [bn_len]; exact Nat.le_refl _), List.take_of_length_le (by rw [bn_len]; exact Nat.le_refl _)]
  | m :: r, w, i + 1, n, h => by
    have ih := part_pk r w i n (by simpa using h)
    rw [← ih]
    unfold part pk
    rw [List.map_cons, List.flatten_cons]
    have e1 : (i + 1) * w + w = (bn m w).length + (i * w + w) := by rw [bn_len, Nat.succ_mul]; omega
    have e2 : (i + 1) * w = (bn m w).length + i * w := by rw [bn_len, Nat.succ_mul]; omega
    rw [e1, List.take_length_add_append, e2, List.drop_length_add_append]
end Tw

set_option maxHeartbeats 4000000
namespace Tw
open PySem PySem.Spec PyProof.Rows L2 LamX
section
variable {P : Program} {w : World} {K : PySem.W.Frag} {mg : Str → Option Value} {base : Heap} {x qual : Str} {params : Arguments} {body : List Stmt} {scope : Scope} {fd : FuncData} {at_ : He.Defn}
/-- the rule for a def that makes lambdas: its code object is known -/
theorem okC {CX : CXT} {N ps : List Str} {k : Nat} {sp : Sp} (F : FunD K x qual params body scope [] [] (He.fAd K at_) fd) (S : FnScope N ps scope) (len : ∀ vs H Q E, sp vs H Q E → vs.length = ps.length)
    (hbody : ∀ (A : Around) (outer : List Env) (s : Shared) (H : Hp) (vs : List V) (Q : VK) (E : XK), Room k (A.deeper (envOfC qual scope s.heap.objs.size (He.fAd K at_) (.ref (He.cT K at_).1))) → sp vs H Q E →
      ∃ t, PSs (cxOf CX P w K mg base N qual scope (He.fAd K at_) (.ref (He.cT K at_).1) A outer s H E) body t ∧ t { nx := fun _ H' => Q .non H', rt := Q } (L2.start N vs) H) : FnOk P w K mg base CX (k + 1) (He.fAd K at_) fd ps sp := by
  obtain ⟨oc, od, dV, kV, doc, pm, an, cdv, ct, osl, rfl, lk, hcd, _, _⟩ := F.ex
  obtain ⟨c, e⟩ := He.codeIn_ref hcd
  have e2 : cdv = .ref (He.cT K at_).1 := by
    rw [e]
    exact congrArg Value.ref (He.codeOf_eq lk e).symm
  subst e2
  exact fn_of lk hcd S len fun A outer s H vs Q E hr hsp => hbody A outer s H vs Q E hr hsp
end
/-- the empty tables of the start -/
theorem tabs_start {K : PySem.W.Frag} {H : Hp} {tf : List He.Defn} {q : He.Defn → Str} (h : ∀ p ∈ tf.map (He.cT K), H p.2 = some (.tbl #[])) : Tabs (tf.map fun d => ((He.cT K d).2, q d)) H := fun p hp => by
  obtain ⟨d, hd, rfl⟩ := List.mem_map.mp hp
  exact TabS.nil (h _ (List.mem_map_of_mem hd))
end Tw

set_option maxHeartbeats 4000000
namespace Tw
open PySem PySem.Spec PyProof.Rows L2 LamX
/-! ### data compared -/
def Sh (n : Nat) (d : PyData) : Prop := d.canLay0 = true ∧ d.depth ≤ n
section
variable {n m : Nat} {d e : PyData} {ds : List PyData}
theorem Sh.shaped (h : Sh n d) (hn : n ≤ 64) : SeqAt.shaped d = true := by
  unfold SeqAt.shaped
  rw [h.1, Bool.true_and]
  exact decide_eq_true (Nat.le_trans h.2 hn)
theorem Sh.mono (h : Sh n d) (hn : n ≤ m) : Sh m d := ⟨h.1, Nat.le_trans h.2 hn⟩
theorem sh_int {i : Int} : Sh n (.int i) := ⟨rfl, Nat.zero_le _⟩
theorem sh_bl {b : Bool} : Sh n (.bool b) := ⟨rfl, Nat.zero_le _⟩
theorem sh_non : Sh n .none := ⟨rfl, Nat.zero_le _⟩
theorem sh_str {x : Str} (h : PyData.strOk x = true) : Sh n (.str x) := ⟨h, Nat.zero_le _⟩
theorem sh_all : ∀ {ds : List PyData}, (∀ d ∈ ds, Sh n d) → PyData.canLayAll0 ds = true ∧ PyData.depthAll ds ≤ n
  | [], _ => ⟨rfl, Nat.zero_le _⟩
  | d :: ds, h => by
    obtain ⟨h1, h2⟩ := sh_all (ds := ds) fun x hx => h x (List.mem_cons_of_mem _ hx)
    obtain ⟨h3, h4⟩ := h d (List.mem_cons_self ..)
    refine ⟨?_, ?_⟩
    · show (d.canLay0 && PyData.canLayAll0 ds) = true
      rw [h1, h3]
      rfl
    · show max d.depth (PyData.depthAll ds) ≤ n
      omega
theorem sh_lst (h : ∀ d ∈ ds, Sh n d) : Sh (n + 1) (.list ds) := ⟨(sh_all h).1, Nat.succ_le_succ (sh_all h).2⟩
theorem sh_tup (h : ∀ d ∈ ds, Sh n d) : Sh (n + 1) (.tuple ds) := ⟨(sh_all h).1, Nat.succ_le_succ (sh_all h).2⟩
theorem sh_map {α : Type} {g : α → PyData} {l : List α} (h : ∀ x ∈ l, Sh n (g x)) : ∀ d ∈ l.map g, Sh n d := fun d hd => by
  obtain ⟨x, hx, rfl⟩ := List.mem_map.mp hd
  exact h x hx
theorem strOk_S {l : List Nat} (h : ∀ c ∈ l, c < 1114112) : PyData.strOk (S l) = true := by
  unfold PyData.strOk S
  rw [Array.all_eq_true_iff_forall_mem]
  intro c hc
  exact decide_eq_true (h c (by simpa using hc))
theorem strOk_sb (l : List Bool) : PyData.strOk (sb l) = true := strOk_S fun c hc => by
  obtain ⟨b, _, rfl⟩ := List.mem_map.mp hc
  cases b <;> decide
end
section
variable {lo : Prop} {K : PySem.W.Frag} {T : List (Addr × Str)} {H H' : Hp} {Q : VK} {x y : V} {d e : PyData} {n : Nat} {a : Addr}
theorem neD_same (hx : Dp K H x d) (hy : Dp K H y d) (s : Sh 64 d) (q : Q (.bl false) H) : rNeD K x y H Q := by
  refine ⟨d, d, hx, hy, s.shaped (Nat.le_refl _), s.shaped (Nat.le_refl _), ?_⟩
  rw [PySem.SeqAt.eqv_refl d s.1]
  exact q
theorem neC_same {σ : L2.St} (hx : Dp K H x d) (hy : Dp K H y d) (s : Sh 64 d) (q : Q (.bl false) H) : tC y σ H fun y H2 => rNeD K x y H2 Q := neD_same hx hy s q
theorem eqD_same (hx : Dp K H x d) (hy : Dp K H y d) (s : Sh 64 d) (q : Q (.bl true) H) : rEqD K x y H Q := by
  refine ⟨d, d, hx, hy, s.shaped (Nat.le_refl _), s.shaped (Nat.le_refl _), ?_⟩
  rw [PySem.SeqAt.eqv_refl d s.1]
  exact q
theorem neD_diff (hx : Dp K H x d) (hy : Dp K H y e) (sx : Sh 64 d) (sy : Sh 64 e) (h : PyData.eqv d e = false) (q : Q (.bl true) H) : rNeD K x y H Q := by
  refine ⟨d, e, hx, hy, sx.shaped (Nat.le_refl _), sy.shaped (Nat.le_refl _), ?_⟩
  rw [h]
  exact q
theorem eqD_of (hx : Dp K H x d) (hy : Dp K H y e) (sx : Sh 64 d) (sy : Sh 64 e) (q : Q (.bl (PyData.eqv d e)) H) : rEqD K x y H Q := ⟨d, e, hx, hy, sx.shaped (Nat.le_refl _), sy.shaped (Nat.le_refl _), q⟩
theorem neD_of (hx : Dp K H x d) (hy : Dp K H y e) (sx : Sh 64 d) (sy : Sh 64 e) (q : Q (.bl (!PyData.eqv d e)) H) : rNeD K x y H Q := ⟨d, e, hx, hy, sx.shaped (Nat.le_refl _), sy.shaped (Nat.le_refl _), q⟩
theorem dpAll_map {α : Type} {f : α → V} {g : α → PyData} : ∀ {l : List α}, (∀ x ∈ l, Dp K H (f x) (g x)) → DpAll K H (l.map f) (l.map g)
  | [], _ => .nil
  | x :: l, h => .cons (h x (List.mem_cons_self ..)) (dpAll_map fun y hy => h y (List.mem_cons_of_mem _ hy))
theorem dp_lst {α : Type} {f : α → V} {g : α → PyData} {l : List α} (s : SqL K H a (l.map f)) (h : ∀ x ∈ l, Dp K H (f x) (g x)) : Dp K H (.ref a) (.list (l.map g)) := .lst s (dpAll_map h)
theorem dp_ints {l : List Int} (s : SqL K H a (l.map .int)) : Dp K H (.ref a) (.list (l.map .int)) := dp_lst s fun x _ => .int x
theorem dp_strs {l : List Str} (s : SqL K H a (l.map .str)) : Dp K H (.ref a) (.list (l.map .str)) := dp_lst s fun x _ => .str x
theorem sh_ints {l : List Int} : Sh (n + 1) (.list (l.map .int)) := sh_lst (sh_map fun _ _ => sh_int)
theorem sh_strs {l : List Str} (h : ∀ x ∈ l, PyData.strOk x = true) : Sh (n + 1) (.list (l.map .str)) := sh_lst (sh_map fun x hx => sh_str (h x hx))
mutual
theorem Xg.dp (X : Xg lo T H H') : ∀ (d : PyData) (v : V), Dp K H v d → Dp K H' v d
  | .none, _, h => by cases h; exact .non
  | .bool b, _, h => by cases h; exact .bl b
  | .int i, _, h => by cases h; exact .int i
  | .str x, _, h => by cases h; exact .str x
  | .list ds, _, h => by
    cases h with
    | lst s h => exact .lst (X.seq s) (Xg.dpAll X ds _ h)
  | .tuple ds, _, h => by
    cases h with
    | tup s h => exact .tup (X.seqT s) (Xg.dpAll X ds _ h)
  | .dict _, _, h => by cases h
theorem Xg.dpAll (X : Xg lo T H H') : ∀ (ds : List PyData) (vs : List V), DpAll K H vs ds → DpAll K H' vs ds
  | [], _, h => by cases h; exact .nil
  | d :: ds, _, h => by
    cases h with
    | cons h1 h2 => exact .cons (Xg.dp X d _ h1) (Xg.dpAll X ds _ h2)
end
/-- lists of numbers, told alike -/
theorem eqvAll_ints : ∀ (l m : List Int), PyData.eqvAll (l.map .int) (m.map .int) = decide (l = m)
  | [], [] => rfl
  | [], _ :: _ => rfl
  | _ :: _, [] => rfl
  | x :: l, y :: m => by
    show ((x == y) && PyData.eqvAll (l.map .int) (m.map .int)) = _
    rw [eqvAll_ints l m, Bool.eq_iff_iff]
    simp
theorem eqv_ints (l m : List Int) : PyData.eqv (.list (l.map .int)) (.list (m.map .int)) = decide (l = m) := eqvAll_ints l m
end
end Tw

set_option maxHeartbeats 4000000
namespace Tw
open PySem PySem.Spec PyProof.Rows L2 LamX
/-! ### rules, the written part by its own name -/
section
variable {X : Cx} {K : PySem.W.Frag} (eK : X.K = K)
def rLenQ (K : PySem.W.Frag) : List V → Hp → VK → Prop := fun xs H Q => ∃ p ys, xs = [.ref p] ∧ (SqL K H p ys ∨ SqT K H p ys) ∧ Q (.int ys.length) H
def rListQ (K : PySem.W.Frag) : List V → Hp → VK → Prop := fun xs H Q => ∃ p ys, xs = [.ref p] ∧ (SqL K H p ys ∨ SqT K H p ys) ∧ ∀ l, H l = none → Q (.ref l) (upd H l (.lst ys))
include eK
theorem call_len_seqK : CallR X (.builtin "len") (rLenQ K) := by subst eK; exact call_len_seq
theorem call_list_ofK : CallR X (.type "list") (rListQ K) := by subst eK; exact call_list_of
theorem ix_listK : IxR X (rIxL K) := by subst eK; exact ix_list
theorem ix_tupK : IxR X (rIxT K) := by subst eK; exact ix_tup
theorem sl_listK : SlR X (rSlL K) := by subst eK; exact sl_list
theorem op_eqDK (hu : X.A.units + 64 < cLine) : OpR X (compareOp .Eq) (rEqD K) := by subst eK; exact op_eqD hu
theorem op_neDK (hu : X.A.units + 64 < cLine) : OpR X (compareOp .NotEq) (rNeD K) := by subst eK; exact op_neD hu
theorem cr_maxK (hc : X.calm = true) : CallR X (.builtin "max") (rMax K) := by subst eK; exact cr_max hc
theorem cr_minK (hc : X.calm = true) : CallR X (.builtin "min") (rMin K) := by subst eK; exact cr_min hc
theorem cr_allK (hc : X.calm = true) : CallR X (.builtin "all") (rAll K) := by subst eK; exact cr_all hc
theorem cr_sumK (hc : X.calm = true) : CallR X (.builtin "sum") (rSum K) := by subst eK; exact cr_sum hc
theorem mt_indexK : MtR X "list.index" (rIndex K) := by subst eK; exact mt_index
theorem op_in_seqK : OpR X (compareOp .In) (rIn K false) := by subst eK; exact op_in_seq
theorem op_notIn_seqK : OpR X (compareOp .NotIn) (rIn K true) := by subst eK; exact op_notIn_seq
theorem call_isiK : CallR X (.builtin "isinstance") (rIsi K) := by subst eK; exact call_isi
theorem cr_sortedIK : CallR X (.builtin "sorted") (rSortedI K) := by subst eK; exact cr_sortedI
end
section
variable {X : Cx} {K : PySem.W.Frag} {tg : Expr}
theorem pi_listK (eK : X.K = K) {l : Expr} {tl : TE} (hl : PE X l tl) : PI X tg l (iList K tl) := by subst eK; exact pi_list hl
theorem pi_tupK (eK : X.K = K) {l : Expr} {tl : TE} (hl : PE X l tl) : PI X tg l (iTup K tl) := by subst eK; exact pi_tup hl
def rJoin (K : PySem.W.Frag) : V → List V → Hp → VK → Prop := fun x xs H Q => ∃ a p, ∃ ys : List Str, x = .str a ∧ xs = [.ref p] ∧ (SqL K H p (ys.map V.str) ∨ SqT K H p (ys.map V.str)) ∧ (ys.map (·.length)).sum + ys.length * a.length ≤ 16777216 ∧ Q (.str (Txt.join a ys)) H
theorem pe_joinK (eK : X.K = K) {o e : Expr} {to te : TE} {apos pos : Pos} (ho : PE X o to) (he : PE X e te) (hs : starEach [e] X.env = [(false, eval e X.env)]) (hbase : attributeBase o "join" X.env (eval o X.env) = eval o X.env) (hline : (apos.endLine == pos.line) = true) :
    PE X (.Call (.Attribute o "join" apos) [e] [] pos) (tM1 (rJoin K) to te) := by subst eK; exact pe_join ho he hs hbase hline
theorem pi_enumK (eK : X.K = K) {e : Expr} {ta : TA} {p pos tpos : Pos} {elts : List Expr} {kk : Nat} (hg : Gl X "enumerate") (hm : X.mg "enumerate" = none) (ha : PA X [e] ta) (hs : starEach [e] X.env = [(false, eval e X.env)]) :
    PI X (.Tuple elts kk tpos) (.Call (.Name "enumerate" p) [e] [] pos) (iEnum K ta) := by subst eK; exact pi_enum hg hm ha hs
theorem pi_zipK (eK : X.K = K) {e e2 : Expr} {ta : TA} {p pos tpos : Pos} {elts : List Expr} {kk : Nat} (hg : Gl X "zip") (hm : X.mg "zip" = none) (ha : PA X [e, e2] ta)
    (hs : starEach [e, e2] X.env = (false, eval e X.env) :: starEach [e2] X.env) (hpl : (backTo pos (starEach [e2] X.env)).any (·.1) = false) :
    PI X (.Tuple elts kk tpos) (.Call (.Name "zip" p) [e, e2] [] pos) (iZip K ta) := by subst eK; exact pi_zip hg hm ha hs hpl
theorem pi_reversedK (eK : X.K = K) {e : Expr} {ta : TA} {p pos : Pos} (hg : Gl X "reversed") (hm : X.mg "reversed" = none) (ha : PA X [e] ta) (hs : starEach [e] X.env = [(false, eval e X.env)]) : PI X tg (.Call (.Name "reversed" p) [e] [] pos) (iRev K ta) := by subst eK; exact pi_reversed hg hm ha hs
theorem pg_tupK (eK : X.K = K) {es : List Expr} {k : Nat} {t : TGs} {n : Nat} {pos : Pos} (hc : X.calm = true) (h : PGs X es t)
    (hn : (assignEach es X.env).length = n) (hst : (assignEach es X.env).findIdx? (·.1) = none) : PG X (.Tuple es k pos) (gTup K n t) := by subst eK; exact pg_tup hc h hn hst
theorem pg_lstK (eK : X.K = K) {es : List Expr} {k : Nat} {t : TGs} {n : Nat} {pos : Pos} (hc : X.calm = true) (h : PGs X es t)
    (hn : (assignEach es X.env).length = n) (hst : (assignEach es X.env).findIdx? (·.1) = none) : PG X (.Tuple es k pos) (gLst K n t) := by subst eK; exact pg_lst hc h hn hst
theorem pe_fldK (eK : X.K = K) {e : Expr} {ta : TE} {f : Str} {pos : Pos} (he : PE X e ta) (hb : attributeBase e f X.env (eval e X.env) = eval e X.env) : PE X (.Attribute e f pos) (tFld K ta f) := by subst eK; exact pe_fld he hb
theorem pe_bm0K (eK : X.K = K) {o : Expr} {to : TE} {name : Str} {apos cpos : Pos} {T id : String} {r : V → List V → Hp → VK → Prop} (pa : PlainAttrs T) (slot : Slot T name id) (hty : typeOf (.builtin id) = pure (.type "method_descriptor")) (hm : MtR X id r) (ho : PE X o to)
    (hbase : attributeBase o name X.env (eval o X.env) = eval o X.env) (hline : (apos.endLine == cpos.line) = true) : PE X (.Call (.Attribute o name apos) [] [] cpos) (tBM0 K T r to) := by subst eK; exact pe_bm0 pa slot hty hm ho hbase hline
theorem pe_bmK (eK : X.K = K) {o e : Expr} {es : List Expr} {to : TE} {t : TA} {name : Str} {apos cpos : Pos} {T id : String} {r : V → List V → Hp → VK → Prop} (pa : PlainAttrs T) (slot : Slot T name id) (hty : typeOf (.builtin id) = pure (.type "method_descriptor")) (hm : MtR X id r) (ho : PE X o to) (ha : PA X (e :: es) t)
    (hbase : attributeBase o name X.env (eval o X.env) = eval o X.env)
    (hfew : ((backTo cpos (starEach (e :: es) X.env)).all (fun x => !x.1) && (backToKw cpos (keywordEach [] X.env)).all (fun x => x.1.isSome)
      && decide ((e :: es).length + ([] : List Keyword).length + (if ([] : List Keyword).isEmpty then 0 else 1) < 30)) = true)
    (hline : (apos.endLine == cpos.line) = true) (hs : starEach (e :: es) X.env = (false, eval e X.env) :: starEach es X.env) (hplain : (backTo cpos (starEach es X.env)).any (·.1) = false) :
    PE X (.Call (.Attribute o name apos) (e :: es) [] cpos) (tBM K T r to t) := by subst eK; exact pe_bm pa slot hty hm ho ha hbase hfew hline hs hplain
end
/-- two ways to one rest -/
theorem via {P R : Hp → Prop} {G : Prop} (main : (∀ H', P H' → R H') → G) (rest : ∀ H', P H' → R H') : G := main rest
/-! ### slices of lists -/
theorem cut_take (l : List V) (j : Nat) : cutV l none (some (j : Int)) = l.take j := by
  unfold cutV
  rw [HT.sIx_nat]
  show (l.drop 0).take (min j l.length - 0) = _
  rw [List.drop_zero, Nat.sub_zero]
  by_cases hj : j ≤ l.length
  · rw [Nat.min_eq_left hj]
  · rw [Nat.min_eq_right (by omega), List.take_of_length_le (Nat.le_refl _), List.take_of_length_le (by omega)]
theorem cut_nat (l : List V) (i j : Nat) : cutV l (some (i : Int)) (some (j : Int)) = (l.take j).drop i := by
  unfold cutV
  rw [HT.sIx_nat, HT.sIx_nat, List.drop_take]
  by_cases hi : i ≤ l.length
  · rw [Nat.min_eq_left hi]
    by_cases hj : j ≤ l.length
    · rw [Nat.min_eq_left hj]
    · rw [Nat.min_eq_right (by omega), List.take_of_length_le (by rw [List.length_drop]; omega), List.take_of_length_le (by rw [List.length_drop]; omega)]
  · rw [List.drop_eq_nil_of_le (by omega : l.length ≤ min i l.length), List.drop_eq_nil_of_le (by omega : l.length ≤ i)]
    simp
theorem cut_drop (l : List V) (i : Nat) : cutV l (some (i : Int)) none = l.drop i := by
  unfold cutV
  rw [HT.sIx_nat]
  show (l.drop (min i l.length)).take (l.length - min i l.length) = _
  by_cases hi : i ≤ l.length
  · rw [Nat.min_eq_left hi, List.take_of_length_le (by rw [List.length_drop]; omega)]
  · rw [List.drop_eq_nil_of_le (by omega : l.length ≤ min i l.length), List.drop_eq_nil_of_le (by omega : l.length ≤ i)]
    simp
end Tw

set_option maxHeartbeats 4000000
namespace Tw
open PySem PySem.Spec PyProof.Rows L2 LamX
/-! ### drawn numbers -/
abbrev pA : Int := 340282366920938463463374607431768211507
abbrev pB : Int := 340282366920938463463374607431768211297
abbrev pC : Int := 18446744073709551557
def dr1 (c k : Int) : Int := (c * 6364136223846793005 + (k + 1) * 1442695040888963407) % pA
def dr2 (c k : Int) : Int := dr1 c k * dr1 c k % pB
def dr (c k : Int) : Int := (dr2 c k % pC + 1) * (dr2 c k / pC + 1) * dr2 c k % pA
theorem dr1_rng (c k : Int) : 0 ≤ dr1 c k ∧ dr1 c k < pA := ⟨Int.emod_nonneg _ (by decide), Int.emod_lt_of_pos _ (by decide)⟩
theorem dr2_rng (c k : Int) : 0 ≤ dr2 c k ∧ dr2 c k < pB := ⟨Int.emod_nonneg _ (by decide), Int.emod_lt_of_pos _ (by decide)⟩
theorem dr_rng (c k : Int) : 0 ≤ dr c k ∧ dr c k < pA := ⟨Int.emod_nonneg _ (by decide), Int.emod_lt_of_pos _ (by decide)⟩
theorem dr1_abs (c k : Int) : (dr1 c k).natAbs < 2 ^ 129 := by have := dr1_rng c k; simp only [pA] at this; omega
theorem dr2_abs (c k : Int) : (dr2 c k).natAbs < 2 ^ 129 := by have := dr2_rng c k; simp only [pB] at this; omega
theorem dr2_a (c k : Int) : (dr2 c k % pC + 1).natAbs < 2 ^ 65 := by
  have h := Int.emod_nonneg (dr2 c k) (show pC ≠ 0 by decide)
  have h2 := Int.emod_lt_of_pos (dr2 c k) (show 0 < pC by decide)
  simp only [pC] at h h2 ⊢
  omega
theorem dr2_b (c k : Int) : (dr2 c k / pC + 1).natAbs < 2 ^ 129 := by
  have := dr2_rng c k
  have h : 0 ≤ dr2 c k / pC := Int.ediv_nonneg this.1 (by decide)
  have h2 : dr2 c k / pC ≤ dr2 c k := Int.ediv_le_self _ this.1
  simp only [pB] at this
  omega
/-- the cell that a turn looks at -/
def cellV (ns : List Int) (k : Nat) : Int := if ns = [] then (k : Int) * 7919 else ns.getD (k % ns.length) 0 + ((k / ns.length : Nat) : Int) * 104729
def mosts : List Int := [0, 1, 2, 7, 8, 255, 256, 10 ^ 9, 2 ^ 40 - 1]
theorem mosts_le (j : Nat) : 0 ≤ mosts.getD j 0 ∧ mosts.getD j 0 < 1099511627776 := by
  by_cases h : j < 9
  · have : ∀ i, i < 9 → 0 ≤ mosts.getD i 0 ∧ mosts.getD i 0 < 1099511627776 := by decide +kernel
    exact this j h
  · rw [List.getD_eq_getElem?_getD, List.getElem?_eq_none (show mosts.length ≤ j from Nat.le_of_not_lt h)]
    decide
end Tw

set_option maxHeartbeats 4000000
namespace Tw
open PySem PySem.Spec PyProof.Rows L2 LamX
/-! ### a text so many times -/
def rRepS : R2 := fun x y H Q => ∃ z k, x = .str z ∧ y = .int k ∧ MulOk z k ∧ Q (.str (Txt.mul z k)) H
theorem op_repS {X : Cx} : OpR X (binaryOp .Mult) rRepS := by
  intro pins s σ H x y v u Q I rx ry h
  obtain ⟨z, k, rfl, rfl, hok, q⟩ := h
  obtain ⟨t, rfl⟩ := rx
  obtain ⟨t', rfl⟩ := ry
  exact SB.mul hok fun t' tk => ⟨.str (Txt.mul z k), H, I.tok _, ⟨_, rfl⟩, q⟩
theorem fold_reps : ∀ (n : Nat) (c : Nat) (a : List Nat), (List.replicate n (#[c] : Array Nat)).foldl (· ++ ·) a.toArray = (a ++ List.replicate n c).toArray
  | 0, c, a => by simp
  | n + 1, c, a => by
    rw [List.replicate_succ, List.foldl_cons]
    have e : a.toArray ++ (#[c] : Array Nat) = (a ++ [c]).toArray := by simp
    rw [e, fold_reps n c, List.append_assoc]
    rfl
theorem mul_S (c : Nat) (k : Int) : Txt.mul (S [c]) k = S (List.replicate k.toNat c) := by
  unfold Txt.mul
  by_cases h : k < 1
  · rw [if_pos h, show k.toNat = 0 by omega]
    rfl
  · rw [if_neg h]
    by_cases h1 : k = 1
    · subst h1
      rfl
    · have hf : (k == 1 || (S [c]).length == 0) = false := by
        rw [Bool.or_eq_false_iff]
        exact ⟨by simpa using h1, rfl⟩
      rw [hf]
      show (⟨_⟩ : Str) = S _
      have := fold_reps k.toNat c []
      unfold S
      rw [List.nil_append] at this
      rw [← this]
theorem mulOk_S {c : Nat} {k : Int} (h1 : -1000000 ≤ k) (h2 : k ≤ 1000000) : MulOk (S [c]) k := by
  refine ⟨?_, fun h3 _ => ?_, fun h3 _ => ?_⟩
  · rw [Bool.or_eq_false_iff]
    exact ⟨decide_eq_false (by omega), decide_eq_false (by omega)⟩
  · have h5 : (1 : Int) ≤ (2 ^ 63 - 1) / k := by
      refine (Int.le_ediv_iff_mul_le (by omega)).mpr ?_
      omega
    show ¬ ((1 : Int) > _)
    omega
  · show decide (1 * k.toNat > sizeLine) = false
    refine decide_eq_false ?_
    have : sizeLine = 16777216 := by decide
    omega
theorem fold_repsA : ∀ (n : Nat) (c a : List Nat), (List.replicate n (c.toArray : Array Nat)).foldl (· ++ ·) a.toArray = (a ++ (List.replicate n c).flatten).toArray
  | 0, c, a => by simp
  | n + 1, c, a => by
    rw [List.replicate_succ, List.foldl_cons]
    have e : a.toArray ++ c.toArray = (a ++ c).toArray := by simp
    rw [e, fold_repsA n c, List.append_assoc]
    rfl
theorem mul_sb (l : List Bool) (k : Nat) (h2 : 2 ≤ k) (hl : l ≠ []) : Txt.mul (sb l) (k : Int) = sb (List.replicate k l).flatten := by
  unfold Txt.mul
  rw [if_neg (by omega)]
  have hlen : (sb l).length ≠ 0 := by
    rw [sb_len]
    exact fun z => hl (List.eq_nil_of_length_eq_zero z)
  have hf : ((k : Int) == 1 || (sb l).length == 0) = false := by
    rw [Bool.or_eq_false_iff]
    refine ⟨?_, by simpa using hlen⟩
    rw [beq_eq_false_iff_ne]
    omega
  rw [hf]
  show (⟨_⟩ : Str) = sb _
  have h3 := fold_repsA k (l.map bc) []
  unfold sb S
  rw [List.nil_append] at h3
  rw [List.map_flatten, List.map_replicate, ← h3]
  rfl
theorem mulOk_sb {l : List Bool} {k : Nat} (h1 : l.length ≤ 1000) (h2 : k ≤ 10000) : MulOk (sb l) (k : Int) := by
  refine ⟨?_, fun h3 _ => ?_, fun h3 _ => ?_⟩
  · rw [Bool.or_eq_false_iff]
    exact ⟨decide_eq_false (by omega), decide_eq_false (by omega)⟩
  · have h5 : (1000 : Int) ≤ (2 ^ 63 - 1) / (k : Int) := by
      refine (Int.le_ediv_iff_mul_le (by omega)).mpr ?_
      omega
    rw [sb_len]
    omega
  · show decide ((sb l).length * ((k : Int)).toNat > sizeLine) = false
    refine decide_eq_false ?_
    rw [sb_len, Int.toNat_natCast]
    have : sizeLine = 16777216 := by decide
    have := Nat.mul_le_mul h1 h2
    omega
theorem cutS_take (l : List Nat) (j : Nat) : cutS (S l) none (some (j : Int)) = S (l.take j) := by
  unfold cutS
  rw [HT.sIx_nat, S_len]
  show (⟨_⟩ : Str) = ⟨_⟩
  congr 2
  show (l.drop 0).take (min j l.length - 0) = _
  rw [List.drop_zero, Nat.sub_zero]
  by_cases hj : j ≤ l.length
  · rw [Nat.min_eq_left hj]
  · rw [Nat.min_eq_right (by omega), List.take_of_length_le (Nat.le_refl _), List.take_of_length_le (by omega)]
end Tw

set_option maxHeartbeats 4000000
namespace Tw
open PySem PySem.Spec PyProof.Rows L2 LamX
/-! ### enumerate(text) -/
/-- the text's signs, each in a new pair with its place -/
def Ites (x : Str) : It :=
  ⟨fun i _ => i < x.cps.size, fun i H v H' => ∃ T c, v = .ref T ∧ H T = none ∧ H' = upd H T (.tup [.int (i : Nat), .str ⟨#[c]⟩]) ∧ x.cps[i]? = some c, fun i _ => i = x.cps.size⟩
theorem draws_text {P : Program} {w : World} {A : Around} (hh : A.handled = none) (it : Addr) (x : Str) (t : Tok) : Draws P w A it [it] x.cps.size (fun i v => ∃ c u, x.cps[i]? = some c ∧ v = .str ⟨#[c]⟩ u) (fun i h => h.IsStrIter it (strIterType x) x t i) := by
  unfold strIterType
  cases x.cps.all (· < 128)
  · exact Draws.strWide hh it x t
  · exact Draws.strAscii hh it x t
theorem turn_enumS {P : Program} {w : World} {K : PySem.W.Frag} {elts : List Expr} {kk : Nat} {tpos : Pos} (x : Str) (t : Tok) (e it : Addr) :
    Turn P w K (.Tuple elts kk tpos) (Ites x) [e, it] e (fun i h => (∃ old, IsEnum h e it ((i : Nat) : Int) old) ∧ h.IsStrIter it (strIterType x) x t i ∧ e ≠ it) where
  mem := by simp
  obj := fun i h st b hb => by
    obtain ⟨⟨old, he⟩, ⟨o, ho, hc, hd⟩, _⟩ := st
    have e' : b = e ∨ b = it := by simpa using hb
    rcases e' with z | z
    · rw [z]; exact ⟨_, he, fun v q => nomatch q⟩
    · rw [z]; exact ⟨o, ho, fun v q => by rw [hd] at q; cases q⟩
  keep := fun i h h' st k => let ⟨⟨old, he⟩, ⟨o, ho, r⟩, hne⟩ := st; ⟨⟨old, k e (by simp) _ he⟩, ⟨o, k it (by simp) o ho, r⟩, hne⟩
  item := by
    intro X hP hw hK hc i pins s σ H E I hf st hg
    subst hP hw hK
    obtain ⟨⟨old, he⟩, hit, hne⟩ := st
    have hel : e < s.heap.objs.size := Heap.lt_size he
    have hil : it < s.heap.objs.size := by obtain ⟨_, q, _⟩ := hit; exact Heap.lt_size q
    have D := draws_text (P := X.prog) (w := X.w) (A := X.A.in1) (I.ok.hd hc) it x t
    refine wpAny_pyNext_enum_itemD D he hit hg hne (by simpa using hne) fun u h' tk hu ho hit' hT hsz hk => ?_
    obtain ⟨c, tu, hcx, rfl⟩ := hu
    refine ⟨_, rfl, wpAny_letOwnedTupleGo_enum (s := { s with heap := h', toks := tk + 1 }) ho fun h'' he' sb => ?_⟩
    have hT2 : h''.get? s.heap.objs.size = some { cls := .type "tuple", data := .seq #[.int i tk, .str ⟨#[c]⟩ tu] } := (sb.2 _ (Nat.ne_of_gt hel)).trans hT
    have new : ObjOk X.prog X.w (upd H s.heap.objs.size (.tup [.int (i : Nat), .str ⟨#[c]⟩])) h'' s.heap.objs.size (.tup [.int (i : Nat), .str ⟨#[c]⟩]) :=
      ⟨by show 2 ≤ sizeLine; decide, [.int i tk, .str ⟨#[c]⟩ tu], .cons ⟨_, rfl⟩ (.cons ⟨_, rfl⟩ .nil), ⟨_, hT2, rfl, _, rfl⟩⟩
    have I1 : Inv X pins σ (upd H s.heap.objs.size (.tup [.int (i : Nat), .str ⟨#[c]⟩])) { s with heap := h'', toks := tk + 1 } :=
      I.turnedNew (ch := [e, it]) (fun b ob hb q => (sb.2 b (fun z => hb (by simp [z]))).trans (hk b ob (fun z => hb (by simp [z])) (fun z => hb (by simp [z])) q)) hf (Nat.le_refl _) new
    refine ⟨.ref s.heap.objs.size, _, I1, rfl, ⟨_, c, rfl, I.hok.fresh (Nat.le_refl _), rfl, hcx⟩, ⟨⟨.str ⟨#[c]⟩ tu, ?_⟩, ?_, hne⟩, fun b hb => ?_⟩
    · have e1 : ((i + 1 : Nat) : Int) = (i : Int) + 1 := by omega
      rw [e1]; exact he'
    · obtain ⟨o, q, r⟩ := hit'
      exact ⟨o, (sb.2 it (Ne.symm hne)).trans q, r⟩
    · have hb' : b < s.heap.objs.size := by
        have e' : b = e ∨ b = it := by simpa using hb
        rcases e' with z | z
        · rw [z]; exact hel
        · rw [z]; exact hil
      rw [upd_ne (Nat.ne_of_lt hb')]
      exact (hf b hb).1
  done := by
    intro X hP hw hK hc i pins s σ H E I hf st hg
    subst hP hw hK
    obtain ⟨⟨old, he⟩, hit, hne⟩ := st
    obtain ⟨f0, f1, f2, f3, f4, f5⟩ := hf it (by simp)
    have hg : i = x.cps.size := hg
    subst hg
    have D := draws_text (P := X.prog) (w := X.w) (A := X.A.in1) (I.ok.hd hc) it x t
    exact wpAny_pyNext_enum_endD D he hit fun h' eb => ⟨rfl, I.turned (t' := s.toks) (fun b o hb q => eb b o hb q) f0 f1 f3 f4 f5⟩
  self := fun A i s Q E st h => let ⟨⟨_, he⟩, _⟩ := st; wpAny_pyIter_enum he h
def iEnumS (ta : TA) : TI := fun σ H R => ta σ H fun vs H1 => ∃ x, vs = [.str x] ∧ R (Ites x) H1
theorem pi_enumSK {X : Cx} {K : PySem.W.Frag} (eK : X.K = K) {e : Expr} {ta : TA} {p pos tpos : Pos} {elts : List Expr} {kk : Nat} (hg : Gl X "enumerate") (hm : X.mg "enumerate" = none) (ha : PA X [e] ta) (hs : starEach [e] X.env = [(false, eval e X.env)]) :
    PI X (.Tuple elts kk tpos) (.Call (.Name "enumerate" p) [e] [] pos) (iEnumS ta) := by
  refine ⟨fun pins s σ H R I h => ?_⟩
  refine Call_ (ld_blt I hg hm boot_enumerate (PyProof.Rows.callWith_type1 (thn (ha.run pos pins s σ H _ I h) fun us s1 ⟨vs, H1, I1, r1, q1⟩ => ?_) hs rfl))
  obtain ⟨x, ex, q⟩ := q1
  subst ex
  cases r1 with
  | cons r rr =>
    cases rr
    obtain ⟨t, rfl⟩ := r
    refine call_enumerate_str fun h' he hit hsz hk => wpAny_pyIter_enum he ?_
    have I2 : Inv X pins σ H1 { s1 with heap := h' } := I1.kept (t' := s1.toks) hk
    refine ⟨s1.heap.objs.size + 1, [s1.heap.objs.size + 1, s1.heap.objs.size], _, _, H1, rfl, I2, turn_enumS x t (s1.heap.objs.size + 1) s1.heap.objs.size, ⟨⟨.none, he⟩, hit, Nat.succ_ne_self _⟩, fun b hb => ?_, q⟩
    have e' : b = s1.heap.objs.size + 1 ∨ b = s1.heap.objs.size := by simpa using hb
    have hle : s1.heap.objs.size ≤ b := by
      rcases e' with z | z
      · rw [z]; exact Nat.le_add_right _ _
      · rw [z]; exact Nat.le_refl _
    exact I1.fpOk hle (I1.hok.fresh hle)
theorem w_enumS {l : List Nat} : Walk (Ites (S l)) l.length (fun _ => True) (fun i H x H' => ∃ (T : Addr) (c : Nat), x = .ref T ∧ H T = none ∧ H' = upd H T (.tup [.int (i : Nat), .str (S [c])]) ∧ l[i]? = some c) := by
  have e : (S l).cps.size = l.length := S_len l
  refine ⟨fun i _ hi _ => by show i < (S l).cps.size; omega, fun _ _ => e.symm, fun i H v H' _ _ y => ?_⟩
  obtain ⟨T, c, h1, h2, h3, h4⟩ := y
  exact ⟨T, c, h1, h2, h3, by simpa [S] using h4⟩
/-! ### comprehensions whose items are new objects -/
section
variable {lo : Prop} {T : List (Addr × Str)} {J : It} {n : Nat} {G : Hp → Prop} {y : Nat → V → Prop} {te : TE} {j : Nat} {σ : L2.St} {H1 : Hp} {D : Addr} {Qd : Hp → Prop}
theorem lcV (P : Nat → List V → Hp → Prop) (w : Walk J n G (Yy y)) (hD : H1 D = none) (hn : n ≤ 1000000) (hG : ∀ H', Xg lo T H1 H' → G H') (h0 : P 0 [] (upd H1 D (.lst [])))
    (he : ∀ i x H' vs, i < n → y i x → Xg lo T H1 H' → P i vs H' → H' D = some (.lst vs) → ∀ Q : VK, (∀ v H4, Xg lo T H' H4 → P (i + 1) (vs ++ [v]) (upd H4 D (.lst (vs ++ [v]))) → Q v H4) → te ((wipe σ [j]).set j (some x)) H' Q)
    (hd : ∀ H' vs, Xg lo T H1 H' → P n vs H' → vs.length = n → H' D = some (.lst vs) → Qd H') :
    ∃ W : Nat → Nat → Hp → Prop, (∃ m, W 0 m (upd H1 D (.lst []))) ∧ ∀ i m H, W i m H →
      (J.stop i H ∧ Qd H) ∨ (J.go i H ∧ ∃ Nx : Hp → Prop, (∀ H', Nx H' → ∃ m', m' < m ∧ W (i + 1) m' H') ∧ ∀ x H', J.yld i H x H' → gName j x (wipe σ [j]) H' fun σ2 H2 => wipe σ2 [j] = wipe σ [j] ∧ tYes σ2 H2 fun b H3 =>
        if b = true then te σ2 H3 fun y H4 => ∃ acc, H4 D = some (.lst acc) ∧ acc.length < sizeLine ∧ Nx (upd H4 D (.lst (acc ++ [y]))) else Nx H3) := by
  refine lc_it w (fun i H => Xg lo T H1 H ∧ ∃ vs : List V, P i vs H ∧ vs.length = i ∧ H D = some (.lst vs)) ⟨Xg.new hD, [], h0, rfl, upd_same ..⟩ (fun i H _ p => hG H p.1) (fun i x H H' hi p hy => ?_) fun H p => by
    obtain ⟨x1, vs, h1, h2, h3⟩ := p
    exact hd H vs x1 h1 h2 h3
  obtain ⟨eH, hy⟩ := hy
  subst eH
  obtain ⟨x1, vs, h1, h2, h3⟩ := p
  refine ⟨wipe1 σ j _, ?_⟩
  unfold tYes
  refine iteT ?_
  refine he i x _ vs hi hy x1 h1 h3 _ fun v H5 x5 p5 => ?_
  have e5 := x5.lst h3
  refine ⟨_, e5, ?_, (x1.trans x5).mut (.of hD) e5, vs ++ [v], p5, by rw [List.length_append, h2]; rfl, upd_same ..⟩
  rw [h2]
  exact Nat.lt_of_lt_of_le hi (Nat.le_trans hn (by decide))
end
end Tw

set_option maxHeartbeats 4000000
namespace Tw
open PySem PySem.Spec PyProof.Rows L2 LamX
/-! ### trees as nested lists; what is no list -/
inductive Ob where
  | no
  | li (cs : List Ob)
/-- the value is no list -/
inductive NoL (H : Hp) : V → Prop where
  | non : NoL H .non
  | int (i : Int) : NoL H (.int i)
  | str (z : Str) : NoL H (.str z)
  | tup {a : Addr} {xs : List V} (h : H a = some (.tup xs)) : NoL H (.ref a)
  | dK {a : Addr} {kvs : List (L2.Key × V)} (h : H a = some (.dK kvs)) : NoL H (.ref a)
mutual
inductive ObAt (K : PySem.W.Frag) (H : Hp) : V → Ob → Prop where
  | no {v : V} : NoL H v → ObAt K H v .no
  | li {a : Addr} {vs : List V} {cs : List Ob} : H a = some (.lst vs) → ObsAt K H vs cs → ObAt K H (.ref a) (.li cs)
inductive ObsAt (K : PySem.W.Frag) (H : Hp) : List V → List Ob → Prop where
  | nil : ObsAt K H [] []
  | cons {v : V} {vs : List V} {c : Ob} {cs : List Ob} : ObAt K H v c → ObsAt K H vs cs → ObsAt K H (v :: vs) (c :: cs)
end
section
variable {lo : Prop} {T : List (Addr × Str)} {K : PySem.W.Frag} {H H' : Hp}
theorem NoL.xt {v : V} (h : NoL H v) (x : Xg lo T H H') : NoL H' v := by
  cases h with
  | non => exact .non
  | int i => exact .int i
  | str z => exact .str z
  | tup h => exact .tup (x.fix h (fun _ _ _ z => by cases z) fun ps z => by cases z)
  | dK h => exact .dK (x.fix h (fun _ _ _ z => by cases z) fun ps z => by cases z)
mutual
theorem Xg.ob (x : Xg lo T H H') : ∀ (o : Ob) (v : V), ObAt K H v o → ObAt K H' v o
  | .no, _, h => by
    cases h with
    | no h => exact .no (h.xt x)
  | .li cs, _, h => by
    cases h with
    | li h hs => exact .li (x.lst h) (Xg.obs x cs _ hs)
theorem Xg.obs (x : Xg lo T H H') : ∀ (cs : List Ob) (vs : List V), ObsAt K H vs cs → ObsAt K H' vs cs
  | [], _, h => by cases h; exact .nil
  | c :: cs, _, h => by
    cases h with
    | cons h1 h2 => exact .cons (Xg.ob x c _ h1) (Xg.obs x cs _ h2)
end
theorem ObsAt.len : ∀ {vs : List V} {cs : List Ob}, ObsAt K H vs cs → vs.length = cs.length
  | _, [], h => by cases h; rfl
  | _, c :: cs, h => by
    cases h with
    | cons h1 h2 => exact congrArg Nat.succ h2.len
theorem ObsAt.get : ∀ {vs : List V} {cs : List Ob} {i : Nat} {v : V}, ObsAt K H vs cs → vs[i]? = some v → ∃ c, cs[i]? = some c ∧ ObAt K H v c
  | _, [], _, _, h, e => by cases h; cases e
  | _, c :: cs, 0, v, h, e => by
    cases h with
    | cons h1 h2 =>
      cases e
      exact ⟨c, rfl, h1⟩
  | _, c :: cs, i + 1, v, h, e => by
    cases h with
    | cons h1 h2 =>
      obtain ⟨c', e', h'⟩ := ObsAt.get (i := i) h2 (by simpa using e)
      exact ⟨c', by simpa using e', h'⟩
end
mutual
def ht : Ob → Nat
  | .no => 0
  | .li cs => htL cs + 1
def htL : List Ob → Nat
  | [] => 0
  | c :: cs => max (ht c) (htL cs)
end
theorem ht_mem {c : Ob} : ∀ {cs : List Ob}, c ∈ cs → ht c ≤ htL cs
  | [], h => by cases h
  | d :: cs, h => by
    show ht c ≤ max (ht d) (htL cs)
    rcases List.mem_cons.mp h with rfl | h
    · omega
    · have := ht_mem h
      omega
theorem flat_one : ∀ s : List Bool, (s.map fun b => [b]).flatten = s
  | [] => rfl
  | b :: r => by
    rw [List.map_cons, List.flatten_cons, flat_one r]
    rfl
/-! ### the bits of a tree -/
mutual
def sgn : Ob → Nat → Option (List Bool)
  | .no, _ => none
  | .li cs, d => if 200 < d then none else (sgnL cs (d + 1) [true]).map (· ++ [false])
def sgnL : List Ob → Nat → List Bool → Option (List Bool)
  | [], _, acc => some acc
  | c :: cs, d, acc => (sgn c d).bind fun s => if 2000 < (acc ++ s).length then none else sgnL cs d (acc ++ s)
end
theorem sgnL_len : ∀ {cs : List Ob} {d : Nat} {acc s : List Bool}, acc.length ≤ 2000 → sgnL cs d acc = some s → s.length ≤ 2000
  | [], d, acc, s, h, e => by
    have e : some acc = some s := e
    rw [← Option.some.inj e]
    exact h
  | c :: cs, d, acc, s, h, e => by
    have e : ((sgn c d).bind fun s => if 2000 < (acc ++ s).length then none else sgnL cs d (acc ++ s)) = some s := e
    cases hc : sgn c d with
    | none =>
      rw [hc] at e
      cases e
    | some r =>
      rw [hc] at e
      have e : (if 2000 < (acc ++ r).length then none else sgnL cs d (acc ++ r)) = some s := e
      by_cases hl : 2000 < (acc ++ r).length
      · rw [if_pos hl] at e
        cases e
      · rw [if_neg hl] at e
        exact sgnL_len (by omega) e
theorem sgn_len {o : Ob} {d : Nat} {s : List Bool} (h : sgn o d = some s) : s.length ≤ 2001 := by
  cases o with
  | no => cases h
  | li cs =>
    have e : (if 200 < d then none else (sgnL cs (d + 1) [true]).map (· ++ [false])) = some s := h
    by_cases hd : 200 < d
    · rw [if_pos hd] at e
      cases e
    · rw [if_neg hd] at e
      obtain ⟨r, h1, h2⟩ := Option.map_eq_some_iff.mp e
      have := sgnL_len (by decide) h1
      rw [← h2, List.length_append]
      show _ + 1 ≤ 2001
      omega
mutual
/-- a tree's bits, without a bound -/
def btT : Ob → List Bool
  | .no => []
  | .li cs => true :: (btL cs ++ [false])
def btL : List Ob → List Bool
  | [] => []
  | c :: cs => btT c ++ btL cs
end
mutual
/-- trees alone -/
def isT : Ob → Bool
  | .no => false
  | .li cs => isTL cs
def isTL : List Ob → Bool
  | [] => true
  | c :: cs => isT c && isTL cs
end
mutual
theorem sgn_of : ∀ (o : Ob) (d : Nat), isT o = true → d + ht o ≤ 201 → (btT o).length ≤ 2000 → sgn o d = some (btT o)
  | .no, _, h, _, _ => by cases h
  | .li cs, d, h, h2, h3 => by
    have h2 : d + (htL cs + 1) ≤ 201 := h2
    have h3 : (true :: (btL cs ++ [false])).length ≤ 2000 := h3
    rw [List.length_cons, List.length_append] at h3
    show (if 200 < d then none else (sgnL cs (d + 1) [true]).map (· ++ [false])) = _
    rw [if_neg (by omega), sgnL_of cs (d + 1) [true] h (by omega) (by rw [List.length_append]; show 1 + _ ≤ 2000; omega)]
    rfl
theorem sgnL_of : ∀ (cs : List Ob) (d : Nat) (acc : List Bool), isTL cs = true → d + htL cs ≤ 201 → (acc ++ btL cs).length ≤ 2000 → sgnL cs d acc = some (acc ++ btL cs)
  | [], d, acc, _, _, _ => by
    show some acc = some (acc ++ [])
    rw [List.append_nil]
  | c :: cs, d, acc, h, h2, h3 => by
    have h : (isT c && isTL cs) = true := h
    rw [Bool.and_eq_true] at h
    have h2 : d + max (ht c) (htL cs) ≤ 201 := h2
    have h3 : (acc ++ (btT c ++ btL cs)).length ≤ 2000 := h3
    rw [List.length_append, List.length_append] at h3
    show (sgn c d).bind (fun s => if 2000 < (acc ++ s).length then none else sgnL cs d (acc ++ s)) = some (acc ++ (btT c ++ btL cs))
    rw [sgn_of c d h.1 (by omega) (by omega)]
    show (if 2000 < (acc ++ btT c).length then none else sgnL cs d (acc ++ btT c)) = _
    rw [if_neg (by rw [List.length_append]; omega), sgnL_of cs d (acc ++ btT c) h.2 (by omega) (by rw [List.length_append, List.length_append]; omega), List.append_assoc]
end
theorem btL_eq : ∀ cs : List Ob, btL cs = (cs.map btT).flatten
  | [] => rfl
  | c :: cs => by
    rw [List.map_cons, List.flatten_cons, ← btL_eq cs]
    rfl
theorem btL_app (a b : List Ob) : btL (a ++ b) = btL a ++ btL b := by rw [btL_eq, btL_eq, btL_eq, List.map_append, List.flatten_append]
theorem btL_mem {c : Ob} {cs : List Ob} (h : c ∈ cs) : (btT c).length ≤ (btL cs).length := by
  induction cs with
  | nil => cases h
  | cons d cs ih =>
    show _ ≤ (btT d ++ btL cs).length
    rw [List.length_append]
    rcases List.mem_cons.mp h with rfl | h
    · omega
    · have := ih h
      omega
theorem isTL_mem {c : Ob} {cs : List Ob} (h : isTL cs = true) (hc : c ∈ cs) : isT c = true := by
  induction cs with
  | nil => cases hc
  | cons d cs ih =>
    have h : (isT d && isTL cs) = true := h
    rw [Bool.and_eq_true] at h
    rcases List.mem_cons.mp hc with rfl | hc
    · exact h.1
    · exact ih h.2 hc
theorem btL_count (cs : List Ob) (h : isTL cs = true) : 2 * cs.length ≤ (btL cs).length := by
  induction cs with
  | nil => exact Nat.le_refl _
  | cons d cs ih =>
    have h : (isT d && isTL cs) = true := h
    rw [Bool.and_eq_true] at h
    have := ih h.2
    show _ ≤ (btT d ++ btL cs).length
    rw [List.length_append, List.length_cons]
    cases d with
    | no => cases h.1
    | li ds =>
      have : (btT (.li ds)).length = (btL ds).length + 2 := by
        show (true :: (btL ds ++ [false])).length = _
        rw [List.length_cons, List.length_append]
        rfl
      omega
/-! ### ups and downs -/
def dp (l : List Bool) : Int := l.foldl (fun d b => d + 2 * (b.toNat : Int) - 1) 0
theorem dp_nil : dp [] = 0 := rfl
theorem dp_snoc (l : List Bool) (b : Bool) : dp (l ++ [b]) = dp l + 2 * (b.toNat : Int) - 1 := by
  unfold dp
  rw [List.foldl_append]
  rfl
structure okT (l : List Bool) : Prop where
  ne : l ≠ []
  mid : ∀ i, 0 < i → i < l.length → 1 ≤ dp (l.take i)
  fin : dp l = 0
  top : ∀ i, i ≤ l.length → dp (l.take i) ≤ 200
/-! ### trees none of whose lists stands at given addresses -/
mutual
inductive ObAv (H : Hp) (A : List Addr) : V → Ob → Prop where
  | li {a : Addr} {vs : List V} {cs : List Ob} : a ∉ A → H a = some (.lst vs) → ObsAv H A vs cs → ObAv H A (.ref a) (.li cs)
inductive ObsAv (H : Hp) (A : List Addr) : List V → List Ob → Prop where
  | nil : ObsAv H A [] []
  | cons {v : V} {vs : List V} {c : Ob} {cs : List Ob} : ObAv H A v c → ObsAv H A vs cs → ObsAv H A (v :: vs) (c :: cs)
end
section
variable {H H' : Hp} {A B : List Addr} {K : PySem.W.Frag}
mutual
/-- carried over: what stands at other addresses stays; fewer addresses to avoid, or such as held no list -/
theorem ObAv.mono (hk : ∀ a xs, a ∉ A → H a = some (.lst xs) → H' a = some (.lst xs) ∧ a ∉ B) : ∀ (o : Ob) (v : V), ObAv H A v o → ObAv H' B v o
  | .no, _, h => by cases h
  | .li cs, _, h => by
    cases h with
    | li h1 h2 h3 => exact .li (hk _ _ h1 h2).2 (hk _ _ h1 h2).1 (ObsAv.mono hk cs _ h3)
theorem ObsAv.mono (hk : ∀ a xs, a ∉ A → H a = some (.lst xs) → H' a = some (.lst xs) ∧ a ∉ B) : ∀ (cs : List Ob) (vs : List V), ObsAv H A vs cs → ObsAv H' B vs cs
  | [], _, h => by cases h; exact .nil
  | c :: cs, _, h => by
    cases h with
    | cons h1 h2 => exact .cons (ObAv.mono hk c _ h1) (ObsAv.mono hk cs _ h2)
end
mutual
theorem ObAv.at : ∀ (o : Ob) (v : V), ObAv H A v o → ObAt K H v o ∧ isT o = true
  | .no, _, h => by cases h
  | .li cs, _, h => by
    cases h with
    | li h1 h2 h3 => exact ⟨.li h2 (ObsAv.at cs _ h3).1, (ObsAv.at cs _ h3).2⟩
theorem ObsAv.at : ∀ (cs : List Ob) (vs : List V), ObsAv H A vs cs → ObsAt K H vs cs ∧ isTL cs = true
  | [], _, h => by cases h; exact ⟨.nil, rfl⟩
  | c :: cs, _, h => by
    cases h with
    | cons h1 h2 =>
      refine ⟨.cons (ObAv.at c _ h1).1 (ObsAv.at cs _ h2).1, ?_⟩
      show (isT c && isTL cs) = true
      have a1 := (ObAv.at c _ h1).2
      have a2 := (ObsAv.at cs _ h2).2
      rw [a1, a2]
      rfl
end
theorem ObsAv.snoc : ∀ {vs : List V} {cs : List Ob} {v : V} {c : Ob}, ObsAv H A vs cs → ObAv H A v c → ObsAv H A (vs ++ [v]) (cs ++ [c])
  | _, [], _, _, h, hc => by cases h; exact .cons hc .nil
  | _, d :: cs, _, _, h, hc => by
    cases h with
    | cons h1 h2 => exact .cons h1 (h2.snoc hc)
end
/-! ### the open rows of a tree that is read -/
structure StkAt (H : Hp) (R : Addr) (as : List Addr) (fs : List (List Ob)) : Prop where
  rows : H R = some (.lst (as.map V.ref))
  nd : (R :: as).Nodup
  len : as.length = fs.length
  row : ∀ (j : Nat) (a : Addr) (f : List Ob), as[j]? = some a → fs[j]? = some f → ∃ vs, H a = some (.lst vs) ∧ ObsAv H (R :: as) vs f
theorem snoc_at {α : Type} {l : List α} {x y : α} {j : Nat} (h : (l ++ [x])[j]? = some y) : l[j]? = some y ∨ (j = l.length ∧ y = x) := by
  rcases Nat.lt_trichotomy j l.length with h1 | h1 | h1
  · rw [List.getElem?_append_left h1] at h
    exact .inl h
  · subst h1
    rw [List.getElem?_append_right (Nat.le_refl _), Nat.sub_self] at h
    exact .inr ⟨rfl, (Option.some.inj h).symm⟩
  · rw [List.getElem?_eq_none (by rw [List.length_append]; show _ + 1 ≤ _; omega)] at h
    cases h
section
variable {H : Hp} {R p : Addr} {as : List Addr} {fs : List (List Ob)}
theorem StkAt.push (s : StkAt H R as fs) (hp : H p = none) : StkAt (upd (upd H p (.lst [])) R (.lst (as.map V.ref ++ [.ref p]))) R (as ++ [p]) (fs ++ [[]]) := by
  have hpR : p ≠ R := fun z => by rw [z, s.rows] at hp; cases hp
  have hpa : p ∉ as := fun h => by
    obtain ⟨j, hj, e⟩ := List.mem_iff_getElem.mp h
    obtain ⟨vs, h1, _⟩ := s.row j p (fs[j]'(by rw [← s.len]; exact hj)) (by rw [List.getElem?_eq_getElem hj, e]) (List.getElem?_eq_getElem _)
    rw [hp] at h1
    cases h1
  have hRa : R ∉ as := (List.nodup_cons.mp s.nd).1
  refine ⟨by rw [upd_same, List.map_append]; rfl, ?_, by rw [List.length_append, List.length_append, s.len]; rfl, fun j a f ha hf => ?_⟩
  · rw [List.nodup_cons]
    refine ⟨fun h => ?_, ?_⟩
    · rcases List.mem_append.mp h with h | h
      · exact hRa h
      · exact hpR (List.mem_singleton.mp h).symm
    · rw [List.nodup_append]
      refine ⟨(List.nodup_cons.mp s.nd).2, by simp, fun x hx y hy => ?_⟩
      have : y = p := by simpa using hy
      subst this
      exact fun e => hpa (e ▸ hx)
  · have hk : ∀ a' xs, a' ∉ R :: as → H a' = some (.lst xs) → (upd (upd H p (.lst [])) R (.lst (as.map V.ref ++ [.ref p]))) a' = some (.lst xs) ∧ a' ∉ R :: (as ++ [p]) := fun a' xs h1 h2 => by
      have n1 : a' ≠ R := fun z => h1 (z ▸ List.mem_cons_self)
      have n2 : a' ≠ p := fun z => by rw [z, hp] at h2; cases h2
      refine ⟨by rw [upd_ne n1, upd_ne n2]; exact h2, fun h => ?_⟩
      rcases List.mem_cons.mp h with h | h
      · exact n1 h
      · rcases List.mem_append.mp h with h | h
        · exact h1 (List.mem_cons_of_mem _ h)
        · exact n2 (by simpa using h)
    rcases snoc_at ha with ha | ⟨e, rfl⟩
    · have hj : j < fs.length := by rw [← s.len]; exact (List.getElem?_eq_some_iff.mp ha).1
      rw [List.getElem?_append_left hj] at hf
      obtain ⟨vs, h1, h2⟩ := s.row j a f ha hf
      have n1 : a ≠ R := fun z => hRa (z ▸ List.mem_of_getElem? ha)
      have n2 : a ≠ p := fun z => hpa (z ▸ List.mem_of_getElem? ha)
      exact ⟨vs, by rw [upd_ne n1, upd_ne n2]; exact h1, ObsAv.mono hk f vs h2⟩
    · rw [e, s.len, List.getElem?_append_right (Nat.le_refl _), Nat.sub_self] at hf
      have : f = [] := (Option.some.inj hf).symm
      subst this
      exact ⟨[], by rw [upd_ne hpR, upd_same], .nil⟩
theorem StkAt.pop {b a : Addr} {g f : List Ob} (s : StkAt H R ((as ++ [b]) ++ [a]) ((fs ++ [g]) ++ [f])) (hl : as.length = fs.length) : ∃ vs, H b = some (.lst vs) ∧ b ≠ R ∧ StkAt (upd (upd H R (.lst ((as ++ [b]).map V.ref))) b (.lst (vs ++ [.ref a]))) R (as ++ [b]) (fs ++ [g ++ [.li f]]) := by
  have nd := List.nodup_cons.mp s.nd
  have hab : as ++ [b] ++ [a] = as ++ [b, a] := by rw [List.append_assoc]; rfl
  have hbm : b ∈ (as ++ [b]) ++ [a] := List.mem_append_left _ (List.mem_append_right _ List.mem_cons_self)
  have ham : a ∈ (as ++ [b]) ++ [a] := List.mem_append_right _ List.mem_cons_self
  have hbR : b ≠ R := fun z => nd.1 (z ▸ hbm)
  have haR : a ≠ R := fun z => nd.1 (z ▸ ham)
  have nd2 := List.nodup_append.mp nd.2
  have haB : ∀ x ∈ as ++ [b], x ≠ a := fun x hx => nd2.2.2 x hx a List.mem_cons_self
  have nd3 := List.nodup_append.mp nd2.1
  have hbA : ∀ x ∈ as, x ≠ b := fun x hx => nd3.2.2 x hx b List.mem_cons_self
  have eb : ((as ++ [b]) ++ [a])[as.length]? = some b := by rw [hab, List.getElem?_append_right (Nat.le_refl _), Nat.sub_self]; rfl
  have eg : ((fs ++ [g]) ++ [f])[as.length]? = some g := by rw [hl, List.append_assoc, List.getElem?_append_right (Nat.le_refl _), Nat.sub_self]; rfl
  have ea : ((as ++ [b]) ++ [a])[as.length + 1]? = some a := by rw [hab, List.getElem?_append_right (by omega), Nat.add_sub_cancel_left]; rfl
  have ef : ((fs ++ [g]) ++ [f])[as.length + 1]? = some f := by rw [hl, List.append_assoc, List.getElem?_append_right (by omega), Nat.add_sub_cancel_left]; rfl
  obtain ⟨vb, hb1, hb2⟩ := s.row _ _ _ eb eg
  obtain ⟨va, ha1, ha2⟩ := s.row _ _ _ ea ef
  refine ⟨vb, hb1, hbR, by rw [upd_ne (Ne.symm hbR), upd_same], List.nodup_cons.mpr ⟨fun h => nd.1 (List.mem_append_left _ h), nd2.1⟩, by rw [List.length_append, List.length_append, hl]; rfl, fun j c k hc hk => ?_⟩
  have hkeep : ∀ a' xs, a' ∉ R :: ((as ++ [b]) ++ [a]) → H a' = some (.lst xs) → (upd (upd H R (.lst ((as ++ [b]).map V.ref))) b (.lst (vb ++ [.ref a]))) a' = some (.lst xs) ∧ a' ∉ R :: (as ++ [b]) := fun a' xs h1 h2 => by
    have n1 : a' ≠ R := fun z => h1 (z ▸ List.mem_cons_self)
    have n2 : a' ≠ b := fun z => by
      rw [z] at h1
      exact h1 (List.mem_cons_of_mem _ hbm)
    refine ⟨by rw [upd_ne n2, upd_ne n1]; exact h2, fun h => ?_⟩
    rcases List.mem_cons.mp h with h | h
    · exact n1 h
    · exact h1 (List.mem_cons_of_mem _ (List.mem_append_left _ h))
  rcases snoc_at hc with hc | ⟨e, rfl⟩
  · have hj : j < as.length := (List.getElem?_eq_some_iff.mp hc).1
    rw [List.getElem?_append_left (by rw [← hl]; exact hj)] at hk
    obtain ⟨vs, h1, h2⟩ := s.row j c k (by rw [List.append_assoc, List.getElem?_append_left hj]; exact hc) (by rw [List.append_assoc, List.getElem?_append_left (by rw [← hl]; exact hj)]; exact hk)
    have hcm := List.mem_of_getElem? hc
    have n1 : c ≠ R := fun z => nd.1 (z ▸ List.mem_append_left _ (List.mem_append_left _ hcm))
    have n2 : c ≠ b := hbA c hcm
    exact ⟨vs, by rw [upd_ne n2, upd_ne n1]; exact h1, ObsAv.mono hkeep k vs h2⟩
  · rw [e, hl, List.getElem?_append_right (Nat.le_refl _), Nat.sub_self] at hk
    have : k = g ++ [.li f] := (Option.some.inj hk).symm
    subst this
    refine ⟨_, upd_same .., (ObsAv.mono hkeep g vb hb2).snoc (.li ?_ ?_ (ObsAv.mono hkeep f va ha2))⟩
    · intro h
      rcases List.mem_cons.mp h with h | h
      · exact haR h
      · exact haB a h rfl
    · rw [upd_ne (haB c (List.mem_append_right _ List.mem_cons_self)).symm, upd_ne haR]
      exact ha1
end
def rawF (fs : List (List Ob)) : List Bool := (fs.map fun f => true :: btL f).flatten
theorem rawF_app (a b : List (List Ob)) : rawF (a ++ b) = rawF a ++ rawF b := by
  unfold rawF
  rw [List.map_append, List.flatten_append]
theorem rawF_one (f : List Ob) : rawF [f] = true :: btL f := by
  unfold rawF
  simp
theorem rawF_push (fs : List (List Ob)) : rawF (fs ++ [[]]) = rawF fs ++ [true] := by rw [rawF_app, rawF_one]; rfl
theorem rawF_pop (fs : List (List Ob)) (g f : List Ob) : rawF (fs ++ [g ++ [.li f]]) = rawF ((fs ++ [g]) ++ [f]) ++ [false] := by
  rw [rawF_app, rawF_app, rawF_app, rawF_one, rawF_one, rawF_one, btL_app]
  show rawF fs ++ (true :: (btL g ++ ((true :: (btL f ++ [false])) ++ []))) = _
  simp
def chainO : Nat → Ob
  | 0 => .li []
  | n + 1 => .li [chainO n]
def wideO (n : Nat) : Ob := .li (List.replicate n (.li []))
theorem obs_snoc {K : PySem.W.Frag} {H : Hp} : ∀ {vs : List V} {cs : List Ob} {v : V} {c : Ob}, ObsAt K H vs cs → ObAt K H v c → ObsAt K H (vs ++ [v]) (cs ++ [c])
  | _, [], _, _, h, hc => by cases h; exact .cons hc .nil
  | _, d :: cs, _, _, h, hc => by
    cases h with
    | cons h1 h2 => exact .cons h1 (obs_snoc h2 hc)
theorem obs_wide {K : PySem.W.Frag} {H : Hp} : ∀ {vs : List V}, (∀ v ∈ vs, ∃ a, v = .ref a ∧ H a = some (.lst [])) → ObsAt K H vs (List.replicate vs.length (.li []))
  | [], _ => .nil
  | v :: vs, h => by
    obtain ⟨a, rfl, e⟩ := h v List.mem_cons_self
    exact .cons (.li e .nil) (obs_wide fun u hu => h u (List.mem_cons_of_mem _ hu))
end Tw

set_option maxHeartbeats 4000000
namespace Tw
open PySem PySem.Spec PyProof.Rows L2 LamX
/-! ### trees with their lists' addresses -/
inductive AT where
  | nd (a : Addr) (cs : List AT)
def AT.root : AT → Addr
  | .nd a _ => a
mutual
def addrs : AT → List Addr
  | .nd a cs => a :: addrsL cs
def addrsL : List AT → List Addr
  | [] => []
  | c :: cs => addrs c ++ addrsL cs
end
mutual
def AtH (H : Hp) : AT → Prop
  | .nd a cs => H a = some (.lst (cs.map fun c => V.ref c.root)) ∧ AtHL H cs
def AtHL (H : Hp) : List AT → Prop
  | [] => True
  | c :: cs => AtH H c ∧ AtHL H cs
end
mutual
def toOb : AT → Ob
  | .nd _ cs => .li (toObL cs)
def toObL : List AT → List Ob
  | [] => []
  | c :: cs => toOb c :: toObL cs
end
mutual
def ins (b : Addr) (i : Nat) (f : Addr) : AT → AT
  | .nd a cs => if a = b then .nd a (cs.take i ++ [.nd f []] ++ cs.drop i) else .nd a (insL b i f cs)
def insL (b : Addr) (i : Nat) (f : Addr) : List AT → List AT
  | [] => []
  | c :: cs => ins b i f c :: insL b i f cs
end
section
variable {H H' : Hp} {K : PySem.W.Frag} {b f : Addr} {i : Nat}
theorem ins_root (t : AT) : (ins b i f t).root = t.root := by
  cases t with
  | nd a cs =>
    show (if a = b then AT.nd a (cs.take i ++ [.nd f []] ++ cs.drop i) else .nd a (insL b i f cs)).root = a
    split <;> rfl
mutual
theorem AtH.ob : ∀ (t : AT), AtH H t → ObAt K H (.ref t.root) (toOb t)
  | .nd a cs, h => .li h.1 (AtHL.obs cs h.2)
theorem AtHL.obs : ∀ (cs : List AT), AtHL H cs → ObsAt K H (cs.map fun c => V.ref c.root) (toObL cs)
  | [], _ => .nil
  | c :: cs, h => .cons (AtH.ob c h.1) (AtHL.obs cs h.2)
end
mutual
theorem AtH.frame : ∀ (t : AT), AtH H t → (∀ a ∈ addrs t, H' a = H a) → AtH H' t
  | .nd a cs, h, k => ⟨by rw [k a List.mem_cons_self]; exact h.1, AtHL.frame cs h.2 fun x hx => k x (List.mem_cons_of_mem _ hx)⟩
theorem AtHL.frame : ∀ (cs : List AT), AtHL H cs → (∀ a ∈ addrsL cs, H' a = H a) → AtHL H' cs
  | [], _, _ => trivial
  | c :: cs, h, k => ⟨AtH.frame c h.1 fun x hx => k x (List.mem_append_left _ hx), AtHL.frame cs h.2 fun x hx => k x (List.mem_append_right _ hx)⟩
end
end
section
variable {lo : Prop} {T : List (Addr × Str)} {H H' : Hp}
mutual
theorem Xg.att (x : Xg lo T H H') : ∀ (t : AT), AtH H t → AtH H' t
  | .nd a cs, h => ⟨x.lst h.1, Xg.attL x cs h.2⟩
theorem Xg.attL (x : Xg lo T H H') : ∀ (cs : List AT), AtHL H cs → AtHL H' cs
  | [], _ => trivial
  | c :: cs, h => ⟨Xg.att x c h.1, Xg.attL x cs h.2⟩
end
end
mutual
theorem isT_toOb : ∀ t : AT, isT (toOb t) = true ∧ (btT (toOb t)).length = 2 * (addrs t).length ∧ ht (toOb t) ≤ (addrs t).length
  | .nd a cs => by
    obtain ⟨h1, h2, h3⟩ := isTL_toOb cs
    refine ⟨h1, ?_, ?_⟩
    · show (true :: (btL (toObL cs) ++ [false])).length = 2 * ((addrsL cs).length + 1)
      rw [List.length_cons, List.length_append, h2]
      show 2 * (addrsL cs).length + 1 + 1 = _
      omega
    · show htL (toObL cs) + 1 ≤ (addrsL cs).length + 1
      omega
theorem isTL_toOb : ∀ cs : List AT, isTL (toObL cs) = true ∧ (btL (toObL cs)).length = 2 * (addrsL cs).length ∧ htL (toObL cs) ≤ (addrsL cs).length
  | [] => ⟨rfl, rfl, Nat.le_refl _⟩
  | c :: cs => by
    obtain ⟨h1, h2, h3⟩ := isT_toOb c
    obtain ⟨g1, g2, g3⟩ := isTL_toOb cs
    refine ⟨?_, ?_, ?_⟩
    · show (isT (toOb c) && isTL (toObL cs)) = true
      rw [h1, g1]
      rfl
    · show (btT (toOb c) ++ btL (toObL cs)).length = 2 * (addrs c ++ addrsL cs).length
      rw [List.length_append, List.length_append, h2, g2]
      omega
    · show max (ht (toOb c)) (htL (toObL cs)) ≤ (addrs c ++ addrsL cs).length
      rw [List.length_append]
      omega
end
section
variable {H H' : Hp} {b f : Addr} {i : Nat}
mutual
theorem ins_not : ∀ (t : AT), b ∉ addrs t → ins b i f t = t
  | .nd a cs, h => by
    have h1 : a ≠ b := fun z => h (z ▸ List.mem_cons_self)
    show (if a = b then AT.nd a (cs.take i ++ [.nd f []] ++ cs.drop i) else .nd a (insL b i f cs)) = _
    rw [if_neg h1, insL_not cs fun z => h (List.mem_cons_of_mem _ z)]
theorem insL_not : ∀ (cs : List AT), b ∉ addrsL cs → insL b i f cs = cs
  | [], _ => rfl
  | c :: cs, h => by
    show ins b i f c :: insL b i f cs = c :: cs
    rw [ins_not c fun z => h (List.mem_append_left _ z), insL_not cs fun z => h (List.mem_append_right _ z)]
end
theorem addrsL_app : ∀ (x y : List AT), addrsL (x ++ y) = addrsL x ++ addrsL y
  | [], _ => rfl
  | c :: x, y => by
    show addrs c ++ addrsL (x ++ y) = (addrs c ++ addrsL x) ++ addrsL y
    rw [addrsL_app x y, List.append_assoc]
mutual
theorem ins_perm : ∀ (t : AT), (addrs t).Nodup → b ∈ addrs t → (addrs (ins b i f t)).Perm (f :: addrs t)
  | .nd a cs, hn, hb => by
    have hn : (a :: addrsL cs).Nodup := hn
    by_cases h : a = b
    · have e : ins b i f (.nd a cs) = .nd a (cs.take i ++ [.nd f []] ++ cs.drop i) := if_pos h
      rw [e]
      show (a :: addrsL (cs.take i ++ [.nd f []] ++ cs.drop i)).Perm (f :: a :: addrsL cs)
      rw [addrsL_app, addrsL_app]
      have e2 : addrsL cs = addrsL (cs.take i) ++ addrsL (cs.drop i) := by rw [← addrsL_app, List.take_append_drop]
      rw [e2]
      show (a :: ((addrsL (cs.take i) ++ [f]) ++ addrsL (cs.drop i))).Perm _
      refine List.Perm.trans (List.Perm.cons a ?_) (List.Perm.swap f a _)
      rw [List.append_assoc]
      exact List.perm_middle
    · have e : ins b i f (.nd a cs) = .nd a (insL b i f cs) := if_neg h
      rw [e]
      have hb2 : b ∈ addrsL cs := (List.mem_cons.mp hb).resolve_left fun z => h z.symm
      exact List.Perm.trans (List.Perm.cons a (insL_perm cs (List.nodup_cons.mp hn).2 hb2)) (List.Perm.swap f a _)
theorem insL_perm : ∀ (cs : List AT), (addrsL cs).Nodup → b ∈ addrsL cs → (addrsL (insL b i f cs)).Perm (f :: addrsL cs)
  | [], _, hb => by cases hb
  | c :: cs, hn, hb => by
    have hn : (addrs c ++ addrsL cs).Nodup := hn
    obtain ⟨n1, n2, n3⟩ := List.nodup_append.mp hn
    show (addrs (ins b i f c) ++ addrsL (insL b i f cs)).Perm (f :: (addrs c ++ addrsL cs))
    rcases List.mem_append.mp hb with h | h
    · rw [insL_not cs fun z => n3 b h b z rfl]
      exact List.Perm.append_right _ (ins_perm c n1 h)
    · rw [ins_not c fun z => n3 b z b h rfl]
      exact List.Perm.trans (List.Perm.append_left _ (insL_perm cs n2 h)) List.perm_middle
end
theorem atL_app : ∀ (x y : List AT), AtHL H x → AtHL H y → AtHL H (x ++ y)
  | [], _, _, h => h
  | c :: x, y, h1, h2 => ⟨h1.1, atL_app x y h1.2 h2⟩
theorem atL_split : ∀ (x y : List AT), AtHL H (x ++ y) → AtHL H x ∧ AtHL H y
  | [], _, h => ⟨trivial, h⟩
  | c :: x, y, h => ⟨⟨h.1, (atL_split x y h.2).1⟩, (atL_split x y h.2).2⟩
theorem insL_roots : ∀ cs : List AT, (insL b i f cs).map (fun c => V.ref c.root) = cs.map fun c => V.ref c.root
  | [] => rfl
  | c :: cs => by
    show V.ref (ins b i f c).root :: (insL b i f cs).map (fun c => V.ref c.root) = _
    rw [ins_root, insL_roots cs]
    rfl
mutual
theorem ins_at (xs : List V) (hb : H b = some (.lst xs)) (hb2 : H' b = some (.lst (xs.take i ++ [V.ref f] ++ xs.drop i))) (hf : H' f = some (.lst [])) : ∀ (t : AT), AtH H t → (addrs t).Nodup → (∀ a, a ≠ b → a ∈ addrs t → H' a = H a) → b ∈ addrs t → AtH H' (ins b i f t)
  | .nd a cs, h, hn, hk, hm => by
    have hn : (a :: addrsL cs).Nodup := hn
    have hn2 := List.nodup_cons.mp hn
    by_cases e : a = b
    · subst e
      have e1 : ins a i f (.nd a cs) = .nd a (cs.take i ++ [.nd f []] ++ cs.drop i) := if_pos rfl
      rw [e1]
      have hx : xs = cs.map fun c => V.ref c.root := by
        have := h.1
        rw [hb] at this
        injection this with this
        injection this
      have hcs : AtHL H' cs := AtHL.frame cs h.2 fun x hx => hk x (fun z => hn2.1 (z ▸ hx)) (List.mem_cons_of_mem _ hx)
      rw [← List.take_append_drop i cs] at hcs
      obtain ⟨c1, c2⟩ := atL_split _ _ hcs
      refine ⟨?_, atL_app _ _ (atL_app _ _ c1 ⟨⟨hf, trivial⟩, trivial⟩) c2⟩
      rw [hb2, hx, List.map_append, List.map_append, List.map_take, List.map_drop]
      rfl
    · have e1 : ins b i f (.nd a cs) = .nd a (insL b i f cs) := if_neg e
      rw [e1]
      have hm2 : b ∈ addrsL cs := (List.mem_cons.mp hm).resolve_left fun z => e z.symm
      refine ⟨?_, insL_at xs hb hb2 hf cs h.2 hn2.2 (fun x hx hx2 => hk x hx (List.mem_cons_of_mem _ hx2)) hm2⟩
      rw [insL_roots, hk a e List.mem_cons_self]
      exact h.1
theorem insL_at (xs : List V) (hb : H b = some (.lst xs)) (hb2 : H' b = some (.lst (xs.take i ++ [V.ref f] ++ xs.drop i))) (hf : H' f = some (.lst [])) : ∀ (cs : List AT), AtHL H cs → (addrsL cs).Nodup → (∀ a, a ≠ b → a ∈ addrsL cs → H' a = H a) → b ∈ addrsL cs → AtHL H' (insL b i f cs)
  | [], _, _, _, hm => by cases hm
  | c :: cs, h, hn, hk, hm => by
    have hn : (addrs c ++ addrsL cs).Nodup := hn
    obtain ⟨n1, n2, n3⟩ := List.nodup_append.mp hn
    rcases List.mem_append.mp hm with hm | hm
    · refine ⟨ins_at xs hb hb2 hf c h.1 n1 (fun x hx hx2 => hk x hx (List.mem_append_left _ hx2)) hm, ?_⟩
      rw [insL_not cs fun z => n3 b hm b z rfl]
      exact AtHL.frame cs h.2 fun x hx => hk x (fun z => n3 b hm b (z ▸ hx) rfl) (List.mem_append_right _ hx)
    · refine ⟨?_, insL_at xs hb hb2 hf cs h.2 n2 (fun x hx hx2 => hk x hx (List.mem_append_right _ hx2)) hm⟩
      rw [ins_not c fun z => n3 b z b hm rfl]
      exact AtH.frame c h.1 fun x hx => hk x (fun z => n3 b (z ▸ hx) b hm rfl) (List.mem_append_left _ hx)
end
end
section
variable {H : Hp} {b : Addr}
mutual
/-- each address of a tree holds a list, no longer than the tree -/
theorem at_of_mem : ∀ (t : AT), AtH H t → b ∈ addrs t → ∃ xs : List V, H b = some (.lst xs) ∧ xs.length ≤ (addrs t).length
  | .nd a cs, h, hm => by
    rcases List.mem_cons.mp hm with rfl | hm
    · refine ⟨_, h.1, ?_⟩
      rw [List.length_map]
      show cs.length ≤ (addrsL cs).length + 1
      have : ∀ cs : List AT, cs.length ≤ (addrsL cs).length := fun cs => by
        induction cs with
        | nil => exact Nat.le_refl _
        | cons c cs ih =>
          show cs.length + 1 ≤ (addrs c ++ addrsL cs).length
          rw [List.length_append]
          cases c with
          | nd a' cs' =>
            show _ ≤ (addrsL cs').length + 1 + _
            omega
      have := this cs
      omega
    · obtain ⟨xs, h1, h2⟩ := atL_of_mem cs h.2 hm
      exact ⟨xs, h1, by show _ ≤ (addrsL cs).length + 1; omega⟩
theorem atL_of_mem : ∀ (cs : List AT), AtHL H cs → b ∈ addrsL cs → ∃ xs : List V, H b = some (.lst xs) ∧ xs.length ≤ (addrsL cs).length
  | [], _, hm => by cases hm
  | c :: cs, h, hm => by
    rcases List.mem_append.mp hm with hm | hm
    · obtain ⟨xs, h1, h2⟩ := at_of_mem c h.1 hm
      exact ⟨xs, h1, by show _ ≤ (addrs c ++ addrsL cs).length; rw [List.length_append]; omega⟩
    · obtain ⟨xs, h1, h2⟩ := atL_of_mem cs h.2 hm
      exact ⟨xs, h1, by show _ ≤ (addrs c ++ addrsL cs).length; rw [List.length_append]; omega⟩
end
end
end Tw

set_option maxHeartbeats 4000000
namespace Tw
open PySem PySem.Spec PyProof.Rows L2 LamX
/-! ### ups and downs of a tree's bits -/
theorem dp_from : ∀ (l : List Bool) (a : Int), l.foldl (fun d b => d + 2 * (b.toNat : Int) - 1) a = a + dp l
  | [], a => by unfold dp; simp
  | b :: l, a => by
    unfold dp
    rw [List.foldl_cons, List.foldl_cons, dp_from l, dp_from l (0 + 2 * (b.toNat : Int) - 1)]
    omega
theorem dp_app (a b : List Bool) : dp (a ++ b) = dp a + dp b := by
  unfold dp
  rw [List.foldl_append, dp_from]
  rfl
theorem dp_cons (b : Bool) (l : List Bool) : dp (b :: l) = 2 * (b.toNat : Int) - 1 + dp l := by
  unfold dp
  rw [List.foldl_cons, dp_from]
  unfold dp
  omega
theorem dp_up (l : List Bool) : dp (true :: l) = 1 + dp l := by rw [dp_cons]; rfl
theorem dp_dn (l : List Bool) : dp (false :: l) = dp l - 1 := by
  rw [dp_cons]
  show 2 * ((0 : Nat) : Int) - 1 + dp l = _
  omega
theorem take_app_dp (a b : List Bool) (i : Nat) : dp ((a ++ b).take i) = if i ≤ a.length then dp (a.take i) else dp a + dp (b.take (i - a.length)) := by
  split
  · rw [List.take_append_of_le_length (by assumption)]
  · rw [List.take_append, List.take_of_length_le (by omega), dp_app]
structure UD (l : List Bool) (h : Nat) : Prop where
  z : dp l = 0
  lo : ∀ i, 0 ≤ dp (l.take i)
  hi : ∀ i, dp (l.take i) ≤ h
  at_ : ∃ i, dp (l.take i) = h
mutual
theorem ud_T : ∀ o : Ob, isT o = true → UD (btT o) (ht o) ∧ ∀ i, 0 < i → i < (btT o).length → 1 ≤ dp ((btT o).take i)
  | .no, h => by cases h
  | .li cs, h => by
    obtain ⟨z, lo, hi, at_⟩ := ud_L cs h
    have step : ∀ i, dp ((true :: (btL cs ++ [false])).take (i + 1)) = if i ≤ (btL cs).length then 1 + dp ((btL cs).take i) else 0 := fun i => by
      rw [List.take_succ_cons, dp_up, take_app_dp]
      split
      · rfl
      · rw [z]
        obtain ⟨j, hj⟩ : ∃ j, i - (btL cs).length = j + 1 := ⟨i - (btL cs).length - 1, by omega⟩
        rw [hj, List.take_succ_cons, List.take_nil, dp_dn]
        rfl
    refine ⟨⟨?_, fun i => ?_, fun i => ?_, ?_⟩, fun i h0 hl => ?_⟩
    · show dp (true :: (btL cs ++ [false])) = 0
      rw [dp_up, dp_app, z, dp_dn]
      rfl
    · show 0 ≤ dp ((true :: (btL cs ++ [false])).take i)
      cases i with
      | zero => exact Int.le_refl _
      | succ i =>
        rw [step]
        have := lo i
        split <;> omega
    · show dp ((true :: (btL cs ++ [false])).take i) ≤ ((htL cs + 1 : Nat) : Int)
      cases i with
      | zero =>
        show (0 : Int) ≤ _
        omega
      | succ i =>
        rw [step]
        have := hi i
        split <;> omega
    · obtain ⟨i, hi⟩ := at_
      by_cases hl : i ≤ (btL cs).length
      · refine ⟨i + 1, ?_⟩
        show dp ((true :: (btL cs ++ [false])).take (i + 1)) = ((htL cs + 1 : Nat) : Int)
        rw [step, if_pos hl, hi]
        omega
      · refine ⟨(btL cs).length + 1, ?_⟩
        show dp ((true :: (btL cs ++ [false])).take ((btL cs).length + 1)) = ((htL cs + 1 : Nat) : Int)
        rw [List.take_of_length_le (by omega)] at hi
        rw [step, if_pos (Nat.le_refl _), List.take_length, hi]
        omega
    · obtain ⟨i, rfl⟩ : ∃ j, i = j + 1 := ⟨i - 1, by omega⟩
      have hl : i + 1 < (true :: (btL cs ++ [false])).length := hl
      rw [List.length_cons, List.length_append] at hl
      have hl : i + 1 < (btL cs).length + 1 + 1 := hl
      show 1 ≤ dp ((true :: (btL cs ++ [false])).take (i + 1))
      rw [step, if_pos (by omega)]
      have := lo i
      omega
theorem ud_L : ∀ cs : List Ob, isTL cs = true → UD (btL cs) (htL cs)
  | [], _ => ⟨rfl, fun i => by show 0 ≤ dp (([] : List Bool).take i); rw [List.take_nil]; exact Int.le_refl _, fun i => by show dp (([] : List Bool).take i) ≤ 0; rw [List.take_nil]; exact Int.le_refl _, 0, rfl⟩
  | c :: cs, h => by
    have h : (isT c && isTL cs) = true := h
    rw [Bool.and_eq_true] at h
    obtain ⟨⟨z1, lo1, hi1, a1⟩, _⟩ := ud_T c h.1
    obtain ⟨z2, lo2, hi2, a2⟩ := ud_L cs h.2
    have e : btL (c :: cs) = btT c ++ btL cs := rfl
    have eh : htL (c :: cs) = max (ht c) (htL cs) := rfl
    rw [e, eh]
    refine ⟨by rw [dp_app, z1, z2]; rfl, fun i => ?_, fun i => ?_, ?_⟩
    · rw [take_app_dp, z1]
      have := lo1 i
      have := lo2 (i - (btT c).length)
      split <;> omega
    · rw [take_app_dp, z1]
      have := hi1 i
      have := hi2 (i - (btT c).length)
      split <;> omega
    · rcases Nat.le_total (ht c) (htL cs) with hh | hh
      · obtain ⟨i, hi⟩ := a2
        refine ⟨(btT c).length + i, ?_⟩
        rw [take_app_dp, z1]
        by_cases h0 : i = 0
        · subst h0
          rw [if_pos (by omega), Nat.add_zero, List.take_length, z1]
          have : dp ((btL cs).take 0) = 0 := rfl
          omega
        · rw [if_neg (by omega), Nat.add_sub_cancel_left, hi]
          omega
      · obtain ⟨i, hi⟩ := a1
        by_cases hl : i ≤ (btT c).length
        · refine ⟨i, ?_⟩
          rw [take_app_dp, if_pos hl, hi]
          omega
        · refine ⟨(btT c).length, ?_⟩
          rw [List.take_of_length_le (by omega)] at hi
          rw [take_app_dp, if_pos (Nat.le_refl _), List.take_length, hi]
          omega
end
theorem okT_bt {o : Ob} (h : isT o = true) (hh : ht o ≤ 200) : okT (btT o) := by
  obtain ⟨⟨z, lo, hi, a⟩, m⟩ := ud_T o h
  refine ⟨fun e => ?_, m, z, fun i _ => ?_⟩
  · cases o with
    | no => cases h
    | li cs => cases e
  · have := hi i
    omega
theorem ht_of {o : Ob} (h : isT o = true) (ok : okT (btT o)) : ht o ≤ 200 := by
  obtain ⟨⟨z, lo, hi, i, hi2⟩, m⟩ := ud_T o h
  by_cases hl : i ≤ (btT o).length
  · have := ok.top i hl
    omega
  · rw [List.take_of_length_le (by omega), z] at hi2
    omega
/-! ### a tree by its bits -/
mutual
theorem inj_T : ∀ (o o' : Ob) (r r' : List Bool), isT o = true → isT o' = true → btT o ++ r = btT o' ++ r' → o = o' ∧ r = r'
  | .no, _, _, _, h, _, _ => by cases h
  | .li cs, .no, _, _, _, h, _ => by cases h
  | .li cs, .li cs', r, r', h, h', e => by
    have e : true :: (btL cs ++ [false]) ++ r = true :: (btL cs' ++ [false]) ++ r' := e
    rw [List.cons_append, List.cons_append, List.append_assoc, List.append_assoc] at e
    obtain ⟨e1, e2⟩ := inj_L cs cs' r r' h h' (List.cons.inj e).2
    exact ⟨by rw [e1], e2⟩
theorem inj_L : ∀ (cs cs' : List Ob) (r r' : List Bool), isTL cs = true → isTL cs' = true → btL cs ++ ([false] ++ r) = btL cs' ++ ([false] ++ r') → cs = cs' ∧ r = r'
  | [], [], r, r', _, _, e => ⟨rfl, (List.cons.inj e).2⟩
  | [], c :: cs, r, r', _, h, e => by
    have h : (isT c && isTL cs) = true := h
    rw [Bool.and_eq_true] at h
    cases c with
    | no => cases h.1
    | li ds => exact absurd (List.cons.inj e).1 (by decide)
  | c :: cs, [], r, r', h, _, e => by
    have h : (isT c && isTL cs) = true := h
    rw [Bool.and_eq_true] at h
    cases c with
    | no => cases h.1
    | li ds => exact absurd (List.cons.inj e).1 (by decide)
  | c :: cs, c' :: cs', r, r', h, h', e => by
    have h : (isT c && isTL cs) = true := h
    have h' : (isT c' && isTL cs') = true := h'
    rw [Bool.and_eq_true] at h h'
    have e : (btT c ++ btL cs) ++ ([false] ++ r) = (btT c' ++ btL cs') ++ ([false] ++ r') := e
    rw [List.append_assoc, List.append_assoc] at e
    obtain ⟨e1, e2⟩ := inj_T c c' _ _ h.1 h'.1 e
    obtain ⟨e3, e4⟩ := inj_L cs cs' r r' h.2 h'.2 e2
    exact ⟨by rw [e1, e3], e4⟩
end
theorem bt_inj {o o' : Ob} (h : isT o = true) (h' : isT o' = true) (e : btT o = btT o') : o = o' := (inj_T o o' [] [] h h' (by rw [List.append_nil, List.append_nil]; exact e)).1
/-! ### trees compared -/
mutual
def dat : Ob → PyData
  | .no => .none
  | .li cs => .list (datL cs)
def datL : List Ob → List PyData
  | [] => []
  | c :: cs => dat c :: datL cs
end
section
variable {K : PySem.W.Frag} {H : Hp}
mutual
theorem dp_ob : ∀ (o : Ob) (v : V), isT o = true → ObAt K H v o → Dp K H v (dat o)
  | .no, _, h, _ => by cases h
  | .li cs, _, h, a => by
    cases a with
    | li e hs => exact .lst (SqL.of e) (dp_obs cs _ h hs)
theorem dp_obs : ∀ (cs : List Ob) (vs : List V), isTL cs = true → ObsAt K H vs cs → DpAll K H vs (datL cs)
  | [], _, _, a => by cases a; exact .nil
  | c :: cs, _, h, a => by
    have h : (isT c && isTL cs) = true := h
    rw [Bool.and_eq_true] at h
    cases a with
    | cons a1 a2 => exact .cons (dp_ob c _ h.1 a1) (dp_obs cs _ h.2 a2)
end
end
mutual
theorem sh_ob : ∀ (o : Ob) (n : Nat), isT o = true → ht o ≤ n → Sh n (dat o)
  | .no, _, h, _ => by cases h
  | .li cs, n, h, hh => by
    have hh : htL cs + 1 ≤ n := hh
    obtain ⟨n, rfl⟩ : ∃ k, n = k + 1 := ⟨n - 1, by omega⟩
    exact sh_lst (sh_obs cs n h (by omega))
theorem sh_obs : ∀ (cs : List Ob) (n : Nat), isTL cs = true → htL cs ≤ n → ∀ d ∈ datL cs, Sh n d
  | [], _, _, _ => fun d h => by cases h
  | c :: cs, n, h, hh => by
    have h : (isT c && isTL cs) = true := h
    rw [Bool.and_eq_true] at h
    have hh : max (ht c) (htL cs) ≤ n := hh
    intro d hd
    rcases List.mem_cons.mp hd with rfl | hd
    · exact sh_ob c n h.1 (by omega)
    · exact sh_obs cs n h.2 (by omega) d hd
end
/-! ### what is no tree -/
theorem sgn_no {d : Nat} : sgn .no d = none := rfl
theorem chain_T : ∀ n, isT (chainO n) = true ∧ ht (chainO n) = n + 1 ∧ btT (chainO n) = List.replicate (n + 1) true ++ List.replicate (n + 1) false
  | 0 => ⟨rfl, rfl, rfl⟩
  | n + 1 => by
    obtain ⟨h1, h2, h3⟩ := chain_T n
    refine ⟨?_, ?_, ?_⟩
    · show (isT (chainO n) && true) = true
      rw [h1]
      rfl
    · show max (ht (chainO n)) 0 + 1 = _
      omega
    · show true :: ((btT (chainO n) ++ []) ++ [false]) = _
      rw [h3, List.append_nil, List.append_assoc, ← List.replicate_succ', List.replicate_succ (n := n + 1)]
      rfl
theorem wide_T (n : Nat) : isT (wideO n) = true ∧ ht (wideO n) ≤ 2 ∧ btT (wideO n) = true :: ((List.replicate n [true, false]).flatten ++ [false]) := by
  have h : isTL (List.replicate n (.li [])) = true ∧ htL (List.replicate n (.li [])) ≤ 1 := by
    induction n with
    | zero => exact ⟨rfl, Nat.zero_le _⟩
    | succ n ih =>
      rw [List.replicate_succ]
      refine ⟨?_, ?_⟩
      · show (true && isTL (List.replicate n (.li []))) = true
        rw [ih.1]
        rfl
      · show max 1 (htL (List.replicate n (.li []))) ≤ 1
        omega
  refine ⟨h.1, Nat.succ_le_succ h.2, ?_⟩
  show true :: (btL (List.replicate n (.li [])) ++ [false]) = _
  rw [btL_eq, List.map_replicate]
  rfl
mutual
/-- too deep -/
theorem sgn_deep : ∀ (o : Ob) (d : Nat), isT o = true → 201 < d + ht o → sgn o d = none
  | .no, _, _, _ => rfl
  | .li cs, d, h, hh => by
    have hh : 201 < d + (htL cs + 1) := hh
    show (if 200 < d then none else (sgnL cs (d + 1) [true]).map (· ++ [false])) = none
    by_cases hd : 200 < d
    · rw [if_pos hd]
    · rw [if_neg hd, sgnL_deep cs (d + 1) [true] h (by omega) (by intro z; subst z; have : htL [] = 0 := rfl; omega)]
      rfl
theorem sgnL_deep : ∀ (cs : List Ob) (d : Nat) (acc : List Bool), isTL cs = true → 201 < d + htL cs → cs ≠ [] → sgnL cs d acc = none
  | [], _, _, _, _, h => absurd rfl h
  | c :: cs, d, acc, h, hh, _ => by
    have h : (isT c && isTL cs) = true := h
    rw [Bool.and_eq_true] at h
    have hh : 201 < d + max (ht c) (htL cs) := hh
    show ((sgn c d).bind fun s => if 2000 < (acc ++ s).length then none else sgnL cs d (acc ++ s)) = none
    rcases Nat.lt_or_ge 201 (d + ht c) with hc | hc
    · rw [sgn_deep c d h.1 hc]
      rfl
    · cases hs : sgn c d with
      | none => rfl
      | some s =>
        show (if 2000 < (acc ++ s).length then none else sgnL cs d (acc ++ s)) = none
        split
        · rfl
        · refine sgnL_deep cs d _ h.2 (by omega) fun z => ?_
          subst z
          have : htL [] = 0 := rfl
          have : 1 ≤ ht c := by
            cases c with
            | no => cases h.1
            | li ds => exact Nat.succ_le_succ (Nat.zero_le _)
          by_cases hd : 200 < d
          · cases c with
            | no => cases hs
            | li ds =>
              have hs : (if 200 < d then none else _) = some s := hs
              rw [if_pos hd] at hs
              cases hs
          · omega
end
mutual
theorem sgn_eq : ∀ (o : Ob) (d : Nat) (s : List Bool), sgn o d = some s → s = btT o
  | .no, _, _, h => by cases h
  | .li cs, d, s, h => by
    have h : (if 200 < d then none else (sgnL cs (d + 1) [true]).map (· ++ [false])) = some s := h
    by_cases hd : 200 < d
    · rw [if_pos hd] at h
      cases h
    · rw [if_neg hd] at h
      obtain ⟨r, h1, h2⟩ := Option.map_eq_some_iff.mp h
      rw [← h2, sgnL_eq cs _ _ _ h1]
      rfl
theorem sgnL_eq : ∀ (cs : List Ob) (d : Nat) (acc s : List Bool), sgnL cs d acc = some s → s = acc ++ btL cs
  | [], _, acc, s, h => by
    have h : some acc = some s := h
    rw [← Option.some.inj h]
    exact (List.append_nil _).symm
  | c :: cs, d, acc, s, h => by
    have h : ((sgn c d).bind fun s => if 2000 < (acc ++ s).length then none else sgnL cs d (acc ++ s)) = some s := h
    cases hs : sgn c d with
    | none =>
      rw [hs] at h
      cases h
    | some r =>
      rw [hs] at h
      have h : (if 2000 < (acc ++ r).length then none else sgnL cs d (acc ++ r)) = some s := h
      by_cases hl : 2000 < (acc ++ r).length
      · rw [if_pos hl] at h
        cases h
      · rw [if_neg hl] at h
        rw [sgnL_eq cs d _ _ h, sgn_eq c d r hs, List.append_assoc]
        rfl
end
theorem sgn_long {o : Ob} (h : 2000 < (btT o).length) : ∀ s, sgn o 1 = some s → 2000 < s.length := fun s e => by
  rw [sgn_eq o 1 s e]
  exact h
end Tw

set_option maxHeartbeats 4000000
namespace Tw
open PySem PySem.Spec PyProof.Rows L2 LamX
/-! ### the places at which f holds -/
def fr (f : Nat → Bool) (n : Nat) : List Nat := (List.range n).filter f
section
variable {f : Nat → Bool} {n p : Nat}
theorem fr_succ : fr f (n + 1) = fr f n ++ if f n = true then [n] else [] := by
  unfold fr
  rw [List.range_succ, List.filter_append]
  congr 1
  by_cases h : f n = true
  · simp [h]
  · simp [h]
theorem fr_len_succ : (fr f (n + 1)).length = (fr f n).length + if f n = true then 1 else 0 := by
  rw [fr_succ, List.length_append]
  split <;> rfl
theorem fr_mono (h : p ≤ n) : (fr f p).length ≤ (fr f n).length := by
  induction n with
  | zero => rw [Nat.le_zero.mp h]; exact Nat.le_refl _
  | succ n ih =>
    rcases Nat.lt_or_ge n p with h1 | h1
    · rw [show p = n + 1 by omega]; exact Nat.le_refl _
    · rw [fr_len_succ]
      have := ih h1
      omega
theorem fr_le : (fr f n).length ≤ n := by
  unfold fr
  exact Nat.le_trans (List.length_filter_le _ _) (by rw [List.length_range]; exact Nat.le_refl _)
theorem fr_mem {x : Nat} : x ∈ fr f n ↔ x < n ∧ f x = true := by
  unfold fr
  rw [List.mem_filter, List.mem_range]
theorem fr_take (h : p ≤ n) : (fr f n).take (fr f p).length = fr f p := by
  induction n with
  | zero => rw [Nat.le_zero.mp h]; exact List.take_of_length_le (Nat.le_refl _)
  | succ n ih =>
    rcases Nat.lt_or_ge n p with h1 | h1
    · rw [show p = n + 1 by omega]; exact List.take_of_length_le (Nat.le_refl _)
    · rw [fr_succ, List.take_append_of_le_length (fr_mono h1), ih h1]
theorem fr_get (h : p < n) (hp : f p = true) : (fr f n)[(fr f p).length]? = some p := by
  induction n with
  | zero => omega
  | succ n ih =>
    rw [fr_succ]
    rcases Nat.lt_or_ge p n with h1 | h1
    · have e := ih h1
      rw [List.getElem?_append_left (List.getElem?_eq_some_iff.mp e).1]
      exact e
    · have e : p = n := by omega
      subst e
      rw [hp, List.getElem?_append_right (Nat.le_refl _), Nat.sub_self]
      rfl
theorem fr_lt (h : p ≤ n) : (fr f n).filter (fun i => decide (i < p)) = fr f p := by
  induction n with
  | zero => rw [Nat.le_zero.mp h]; rfl
  | succ n ih =>
    rcases Nat.lt_or_ge n p with h1 | h1
    · rw [show p = n + 1 by omega, List.filter_eq_self]
      intro x hx
      exact decide_eq_true (fr_mem.mp hx).1
    · rw [fr_succ, List.filter_append, ih h1]
      by_cases hf : f n = true
      · rw [if_pos hf, List.filter_cons, if_neg (by rw [decide_eq_false (by omega)]; decide)]
        exact List.append_nil _
      · rw [if_neg hf]
        exact List.append_nil _
theorem fr_ge (h : p ≤ n) : (fr f n).filter (fun i => decide (i ≥ p)) = (fr f n).drop (fr f p).length := by
  induction n with
  | zero => rw [Nat.le_zero.mp h]; rfl
  | succ n ih =>
    rcases Nat.lt_or_ge n p with h1 | h1
    · rw [show p = n + 1 by omega, List.drop_of_length_le (Nat.le_refl _), List.filter_eq_nil_iff]
      intro x hx hd
      have := (fr_mem.mp hx).1
      have := of_decide_eq_true hd
      omega
    · rw [fr_succ, List.filter_append, ih h1, List.drop_append_of_le_length (fr_mono h1)]
      congr 1
      by_cases hf : f n = true
      · rw [if_pos hf, List.filter_cons, if_pos (decide_eq_true h1)]
        rfl
      · rw [if_neg hf]
        rfl
theorem fr_add (a k : Nat) : (fr f (a + k)).length = (fr f a).length + (fr (fun i => f (a + i)) k).length := by
  induction k with
  | zero => rfl
  | succ k ih =>
    rw [show a + (k + 1) = (a + k) + 1 from rfl, fr_len_succ, ih, fr_len_succ]
    omega
theorem fr_congr {g : Nat → Bool} (h : ∀ i, i < n → f i = g i) : fr f n = fr g n := by
  unfold fr
  exact List.filter_congr fun i hi => h i (List.mem_range.mp hi)
end
/-! ### a row's places -/
def bt (b : Bool) (l : List Bool) (i : Nat) : Bool := l[i]? == some b
def pos (b : Bool) (l : List Bool) : List Nat := fr (bt b l) l.length
def cn (b : Bool) (l : List Bool) (p : Nat) : Nat := (fr (bt b l) p).length
section
variable {b : Bool} {l : List Bool} {p n : Nat}
theorem bt_iff : bt b l p = true ↔ l[p]? = some b := by unfold bt; exact beq_iff_eq
theorem cn_zero : cn b l 0 = 0 := rfl
theorem cn_succ : cn b l (p + 1) = cn b l p + if bt b l p = true then 1 else 0 := fr_len_succ
theorem cn_le : cn b l p ≤ p := fr_le
theorem cn_mono (h : p ≤ n) : cn b l p ≤ cn b l n := fr_mono h
theorem cn_two (h : p ≤ l.length) : cn true l p + cn false l p = p := by
  induction p with
  | zero => rfl
  | succ p ih =>
    have ih := ih (by omega)
    rw [cn_succ, cn_succ]
    have : l[p]? = some true ∨ l[p]? = some false := by
      rw [List.getElem?_eq_getElem (show p < l.length by omega)]
      cases l[p]
      · exact .inr rfl
      · exact .inl rfl
    rcases this with h | h
    · rw [if_pos (bt_iff.mpr h), if_neg (fun z => by rw [bt_iff.mp z] at h; cases h)]
      omega
    · rw [if_pos (bt_iff.mpr h), if_neg (fun z => by rw [bt_iff.mp z] at h; cases h)]
      omega
theorem pos_len : (pos b l).length = cn b l l.length := rfl
theorem pos_get (hp : l[p]? = some b) : (pos b l)[cn b l p]? = some p := fr_get (List.getElem?_eq_some_iff.mp hp).1 (bt_iff.mpr hp)
theorem pos_none (h : cn b l l.length ≤ n) : (pos b l)[n]? = none := List.getElem?_eq_none h
end
theorem sum_bits (l : List Bool) (a : Nat) : ∀ (k : Nat), a + k ≤ l.length → (((List.range k).map fun i => (((l.getD (a + i) false).toNat : Nat) : Int)).sum) = ((cn true l (a + k) : Nat) : Int) - (cn true l a : Nat)
  | 0, _ => by simp
  | k + 1, h => by
    have ih := sum_bits l a k (by omega)
    rw [List.range_succ, List.map_append, List.sum_append, ih, show a + (k + 1) = (a + k) + 1 from rfl, cn_succ]
    have e : l[a + k]? = some l[a + k] := List.getElem?_eq_getElem (by omega)
    simp only [List.map_cons, List.map_nil, List.sum_cons, List.sum_nil, List.getD_eq_getElem?_getD, e, Option.getD_some]
    cases hb : l[a + k] with
    | true =>
      rw [if_pos (bt_iff.mpr (by rw [e, hb]))]
      simp
      omega
    | false =>
      rw [if_neg (fun z => by rw [bt_iff.mp z] at e; rw [hb] at e; cases e)]
      simp
def on : Option Nat → V
  | some p => .int p
  | none => .non
theorem cn_all (b : Bool) : ∀ l : List Bool, cn b l l.length = l.count b
  | [] => rfl
  | x :: r => by
    have ih := cn_all b r
    unfold cn at ih ⊢
    have e2 : fr (fun i => bt b (x :: r) (1 + i)) r.length = fr (bt b r) r.length := fr_congr fun i _ => by
      unfold bt
      rw [Nat.add_comm 1 i, List.getElem?_cons_succ]
    have e3 : (fr (bt b (x :: r)) (0 + 1)).length = if x = b then 1 else 0 := by
      rw [fr_len_succ]
      show 0 + _ = _
      unfold bt
      by_cases h : x = b
      · simp [h]
      · simp [h]
    rw [List.length_cons, Nat.add_comm r.length 1, fr_add, e2, ih, List.count_cons, show (1 : Nat) = 0 + 1 from rfl, e3]
    by_cases h : x = b
    · simp [h]
      omega
    · simp [h]
theorem count_alt : ∀ k : Nat, ((List.replicate k [true, false]).flatten).count true = k ∧ ((List.replicate k [true, false]).flatten).length = 2 * k
  | 0 => ⟨rfl, rfl⟩
  | k + 1 => by
    obtain ⟨h1, h2⟩ := count_alt k
    rw [List.replicate_succ, List.flatten_cons]
    refine ⟨?_, ?_⟩
    · rw [List.count_append, h1]
      show 1 + k = k + 1
      omega
    · rw [List.length_append, h2]
      show 2 + 2 * k = _
      omega
def dOn : Option Nat → PyData
  | some p => .int p
  | none => .none
theorem dp_on {K : PySem.W.Frag} {H : Hp} (o : Option Nat) : Dp K H (on o) (dOn o) := by
  cases o with
  | none => exact .non
  | some p => exact .int _
theorem sh_on {n : Nat} (o : Option Nat) : Sh n (dOn o) := by
  cases o with
  | none => exact sh_non
  | some p => exact sh_int
theorem kept_list (L : List Nat) (g : Nat → Bool) (h : Nat → V) : kept L.length (fun i => g (L.getD i 0)) (fun i => h (L.getD i 0)) = (L.filter g).map h := by
  unfold kept
  have e : L = (List.range L.length).map fun i => L.getD i 0 := by
    refine List.ext_getElem (by simp) fun i h1 h2 => ?_
    simp [List.getD_eq_getElem?_getD, List.getElem?_eq_getElem h1]
  conv => rhs; rw [e]
  rw [List.filter_map, List.map_map]
  rfl
theorem first_on (A : List Nat) : atI (A.map (fun (i : Nat) => V.int i) ++ [.non]) 0 = some (on A[0]?) := by
  cases A with
  | nil => rfl
  | cons a A => exact atI_nat (j := 0) rfl
theorem last_on (A : List Nat) : atI ([.non] ++ A.map (fun (i : Nat) => V.int i)) (-1) = some (on (if A.length = 0 then none else A[A.length - 1]?)) := by
  rcases List.eq_nil_or_concat A with h | ⟨B, b, h⟩
  · subst h
    rfl
  · have h : A = B ++ [b] := by rw [h, List.concat_eq_append]
    subst h
    rw [List.map_append, ← List.append_assoc]
    have hl : (B ++ [b]).length = B.length + 1 := by simp
    rw [hl, if_neg (by omega), Nat.add_sub_cancel, List.getElem?_append_right (Nat.le_refl _), Nat.sub_self]
    exact atI_last _ _
/-! ### counted signs -/
open StrLaws Builtin Builtin.Str in
theorem occ_one (x : Str) (c limit : Nat) : ∀ (k i : Nat) (st : Array Nat × Nat), st.2 ≤ i → st.1.size + k ≤ limit →
    (forIn (List.range' i k) st (occBody x ⟨#[c]⟩ x.length limit)).run.fst.toList = st.fst.toList ++ (List.range' i k).filter (fun j => x.cps.toList[j]? == some c)
  | 0, i, st, _, _ => by simp
  | k + 1, i, st, h1, h2 => by
    rw [List.range'_succ, List.forIn_cons]
    unfold occBody
    by_cases hc : x.cps.toList[i]? = some c
    · have hs := (subAt_one x c i).mpr hc
      rw [if_pos ⟨⟨⟨by omega, h1⟩, hs.1⟩, hs.2⟩]
      have ih := occ_one x c limit k (i + 1) (st.fst.push i, i + (⟨#[c]⟩ : Str).length) (Nat.le_refl _) (by rw [Array.size_push]; omega)
      rw [List.filter_cons, if_pos (beq_iff_eq.mpr hc)]
      refine Eq.trans ih ?_
      rw [Array.toList_push, List.append_assoc]
      rfl
    · rw [if_neg (fun z => hc ((subAt_one x c i).mp ⟨z.1.2, z.2⟩))]
      have ih := occ_one x c limit k (i + 1) (st.fst, st.snd) (Nat.le_succ_of_le h1) (by show st.1.size + k ≤ limit; omega)
      rw [List.filter_cons, if_neg (fun z => hc (beq_iff_eq.mp z))]
      exact ih
theorem count_sign (l : List Bool) (b : Bool) : Txt.count (sb l) (sb [b]) = (cn b l l.length : Int) := by
  have e1 : sb [b] = ⟨#[bc b]⟩ := rfl
  unfold Txt.count
  rw [e1, StrLaws.occ_eq, occ_one (sb l) (bc b) ((sb l).length + 1) ((sb l).length + 1 - 0) 0 (#[], 0) (Nat.le_refl _) (by show 0 + ((sb l).length + 1 - 0) ≤ _; omega)]
  congr 1
  show (([] : List Nat) ++ (List.range' 0 ((sb l).length + 1 - 0)).filter _).length = (fr (bt b l) l.length).length
  rw [List.nil_append, Nat.sub_zero, sb_len, ← List.range_eq_range', List.range_succ, List.filter_append]
  have h0 : (sb l).cps.toList = l.map bc := rfl
  rw [h0]
  have h1 : List.filter (fun j => (l.map bc)[j]? == some (bc b)) [l.length] = [] := by
    rw [List.filter_cons, List.getElem?_eq_none (by rw [List.length_map]; exact Nat.le_refl _)]
    rfl
  rw [h1, List.append_nil]
  congr 1
  refine List.filter_congr fun i hi => ?_
  unfold bt
  rw [List.getElem?_map]
  cases l[i]? with
  | none => rfl
  | some c => cases c <;> cases b <;> rfl
theorem cn_take {b : Bool} {l : List Bool} {a : Nat} (h : a ≤ l.length) : cn b (l.take a) (l.take a).length = cn b l a := by
  rw [List.length_take, Nat.min_eq_left h]
  unfold cn
  rw [fr_congr fun i hi => ?_]
  unfold bt
  rw [List.getElem?_take, if_pos hi]
theorem count_bit (l : List Bool) : Txt.count (sb l) "1" = (cn true l l.length : Int) := by
  have e1 : (Str.ofString "1" : Str) = ⟨#[49]⟩ := by decide +kernel
  unfold Txt.count
  rw [e1, StrLaws.occ_eq, occ_one (sb l) 49 ((sb l).length + 1) ((sb l).length + 1 - 0) 0 (#[], 0) (Nat.le_refl _) (by show 0 + ((sb l).length + 1 - 0) ≤ _; omega)]
  congr 1
  show (([] : List Nat) ++ (List.range' 0 ((sb l).length + 1 - 0)).filter _).length = (fr (bt true l) l.length).length
  rw [List.nil_append, Nat.sub_zero, sb_len, ← List.range_eq_range', List.range_succ, List.filter_append]
  have h0 : (sb l).cps.toList = l.map bc := rfl
  rw [h0]
  have h1 : List.filter (fun j => (l.map bc)[j]? == some 49) [l.length] = [] := by
    rw [List.filter_cons, List.getElem?_eq_none (by rw [List.length_map]; exact Nat.le_refl _)]
    rfl
  rw [h1, List.append_nil]
  congr 1
  refine List.filter_congr fun i hi => ?_
  unfold bt
  rw [List.getElem?_map]
  cases l[i]? with
  | none => rfl
  | some b => cases b <;> rfl
end Tw

set_option maxHeartbeats 4000000
namespace Tw
open PySem PySem.Spec PyProof.Rows L2 LamX
/-! ### depths along the bits -/
def dq (l : List Bool) (i : Nat) : Int := dp (l.take i)
section
variable {l : List Bool} {i j p c e t k : Nat}
theorem dq_zero : dq l 0 = 0 := rfl
theorem dq_len : dq l l.length = dp l := by unfold dq; rw [List.take_length]
theorem dq_succ {b : Bool} (h : l[i]? = some b) : dq l (i + 1) = dq l i + 2 * (b.toNat : Int) - 1 := by
  unfold dq
  rw [List.take_add_one, h]
  exact dp_snoc _ _
theorem dq_up (h : l[i]? = some true) : dq l (i + 1) = dq l i + 1 := by
  rw [dq_succ h]
  show _ + 2 * ((1 : Nat) : Int) - 1 = _
  omega
theorem dq_dn (h : l[i]? = some false) : dq l (i + 1) = dq l i - 1 := by
  rw [dq_succ h]
  show _ + 2 * ((0 : Nat) : Int) - 1 = _
  omega
theorem bit_of (h : i < l.length) : l[i]? = some true ∨ l[i]? = some false := by
  rw [List.getElem?_eq_getElem h]
  cases l[i]
  · exact .inr rfl
  · exact .inl rfl
theorem len_of {b : Bool} (h : l[i]? = some b) : i < l.length := (List.getElem?_eq_some_iff.mp h).1
theorem dq_cn (h : i ≤ l.length) : dq l i = 2 * (cn true l i : Int) - i := by
  induction i with
  | zero => rfl
  | succ i ih =>
    have ih := ih (by omega)
    rw [cn_succ]
    rcases bit_of (show i < l.length by omega) with hb | hb
    · rw [dq_up hb, ih, if_pos (bt_iff.mpr hb)]
      omega
    · rw [dq_dn hb, ih, if_neg (fun z => by rw [bt_iff.mp z] at hb; cases hb)]
      omega
theorem okT.dq0 (W : okT l) (h : i ≤ l.length) : 0 ≤ dq l i := by
  by_cases h0 : i = 0
  · subst h0; exact Int.le_refl _
  · by_cases h1 : i = l.length
    · subst h1
      rw [dq_len, W.fin]
      exact Int.le_refl _
    · have := W.mid i (by omega) (by omega)
      show 0 ≤ dp (l.take i)
      omega
theorem okT.dq1 (W : okT l) (h0 : 0 < i) (h : i < l.length) : 1 ≤ dq l i := W.mid i h0 h
theorem okT.dqT (W : okT l) (h : i ≤ l.length) : dq l i ≤ 200 := W.top i h
theorem okT.dqE (W : okT l) : dq l l.length = 0 := by rw [dq_len, W.fin]
theorem okT.len (W : okT l) : 2 * cn true l l.length = l.length := by
  have := dq_cn (l := l) (Nat.le_refl l.length)
  rw [W.dqE] at this
  omega
theorem okT.pos (W : okT l) : 2 ≤ l.length := by
  have h1 := W.len
  have : 0 < l.length := List.length_pos_iff.mpr W.ne
  omega
theorem okT.first (W : okT l) : l[0]? = some true := by
  have h := W.pos
  rcases bit_of (show 0 < l.length by omega) with h1 | h1
  · exact h1
  · have h2 : dq l 1 = dq l 0 - 1 := dq_dn h1
    have h3 := W.dq0 (i := 1) (by omega)
    rw [dq_zero] at h2
    omega
/-! ### the nodes that are open -/
def stk (l : List Bool) : Nat → List Nat
  | 0 => []
  | t + 1 => if l[t]? = some true then stk l t ++ [t] else (stk l t).dropLast
theorem stk_up (h : l[t]? = some true) : stk l (t + 1) = stk l t ++ [t] := if_pos h
theorem stk_dn (h : ¬ l[t]? = some true) : stk l (t + 1) = (stk l t).dropLast := if_neg h
theorem stk_len (W : okT l) (h : t ≤ l.length) : ((stk l t).length : Int) = dq l t := by
  induction t with
  | zero => rfl
  | succ t ih =>
    have ih := ih (by omega)
    rcases bit_of (show t < l.length by omega) with hb | hb
    · rw [stk_up hb, dq_up hb, List.length_append]
      show ((_ + 1 : Nat) : Int) = _
      omega
    · have := W.dq0 h
      rw [dq_dn hb] at this
      rw [stk_dn (by rw [hb]; decide), dq_dn hb, List.length_dropLast]
      omega
theorem stk_mem (h : c ∈ stk l t) : c < t ∧ l[c]? = some true := by
  induction t with
  | zero => cases h
  | succ t ih =>
    by_cases hb : l[t]? = some true
    · rw [stk_up hb] at h
      rcases List.mem_append.mp h with h | h
      · exact ⟨Nat.lt_succ_of_lt (ih h).1, (ih h).2⟩
      · have : c = t := by simpa using h
        subst this
        exact ⟨Nat.lt_succ_self _, hb⟩
    · rw [stk_dn hb] at h
      have h := List.dropLast_subset _ h
      exact ⟨Nat.lt_succ_of_lt (ih h).1, (ih h).2⟩
theorem stk_pre (h : (stk l t)[k]? = some c) : stk l c = (stk l t).take k := by
  induction t with
  | zero => cases h
  | succ t ih =>
    by_cases hb : l[t]? = some true
    · rw [stk_up hb] at h ⊢
      rcases snoc_at h with h | ⟨h1, h2⟩
      · rw [List.take_append_of_le_length (Nat.le_of_lt (List.getElem?_eq_some_iff.mp h).1)]
        exact ih h
      · subst h1 h2
        rw [List.take_append_of_le_length (Nat.le_refl _), List.take_length]
    · rw [stk_dn hb] at h ⊢
      have hk : k < (stk l t).length - 1 := by
        have := (List.getElem?_eq_some_iff.mp h).1
        rw [List.length_dropLast] at this
        exact this
      rw [List.dropLast_eq_take, List.getElem?_take_of_lt hk] at h
      rw [List.dropLast_eq_take, List.take_take, Nat.min_eq_left (by omega)]
      exact ih h
/-- no node is opened again -/
theorem stk_keep (h : p ∈ stk l t) (hp : p < i) (hi : i ≤ t) : p ∈ stk l i := by
  induction t with
  | zero => cases h
  | succ t ih =>
    by_cases e : i = t + 1
    · rw [e]; exact h
    · refine ih ?_ (by omega)
      by_cases hb : l[t]? = some true
      · rw [stk_up hb] at h
        rcases List.mem_append.mp h with h | h
        · exact h
        · have : p = t := by simpa using h
          omega
      · rw [stk_dn hb] at h
        exact List.dropLast_subset _ h
theorem stk_inc : (stk l t).Pairwise (· < ·) := by
  induction t with
  | zero => exact List.Pairwise.nil
  | succ t ih =>
    by_cases hb : l[t]? = some true
    · rw [stk_up hb, List.pairwise_append]
      refine ⟨ih, List.pairwise_singleton _ _, fun a ha b hb => ?_⟩
      have : b = t := by simpa using hb
      subst this
      exact (stk_mem ha).1
    · rw [stk_dn hb]
      exact ih.sublist (List.dropLast_sublist _)
theorem stk_nd : (stk l t).Nodup := stk_inc.imp fun h => Nat.ne_of_lt h
/-! ### where a node ends -/
/-- the first place from j on whose bit leads down to d -/
def fd (l : List Bool) (j : Nat) (d : Int) : Option Nat := (List.range l.length).find? fun i => decide (j ≤ i ∧ dq l (i + 1) = d)
theorem fd_some {d : Int} (h1 : j ≤ i) (h2 : i < l.length) (h3 : dq l (i + 1) = d) (h4 : ∀ k, j ≤ k → k < i → dq l (k + 1) ≠ d) : fd l j d = some i := by
  unfold fd
  rw [List.find?_range_eq_some]
  refine ⟨decide_eq_true ⟨h1, h3⟩, List.mem_range.mpr h2, fun k hk => ?_⟩
  rw [Bool.not_eq_true', decide_eq_false_iff_not]
  exact fun z => h4 k z.1 hk z.2
theorem fd_none {d : Int} (h : ∀ k, j ≤ k → k < l.length → dq l (k + 1) ≠ d) : fd l j d = none := by
  unfold fd
  rw [List.find?_range_eq_none]
  intro k hk
  rw [Bool.not_eq_true', decide_eq_false_iff_not]
  exact fun z => h k z.1 hk z.2
def en (l : List Bool) (p : Nat) : Nat := (fd l p (dq l p)).getD 0
structure Ends (l : List Bool) (p e : Nat) : Prop where
  lt : p < e
  le : e < l.length
  at_ : dq l (e + 1) = dq l p
  up : ∀ i, p < i → i ≤ e → dq l p < dq l i
theorem ends_ex (W : okT l) (hp : l[p]? = some true) : ∃ e, Ends l p e := by
  have hl := len_of hp
  have step : ∀ n, p + 1 ≤ n → n ≤ l.length → (∀ i, p < i → i ≤ n → dq l p < dq l i) ∨ ∃ e, e < n ∧ Ends l p e := fun n h1 h2 => by
    induction n with
    | zero => omega
    | succ n ih =>
      by_cases h0 : n = p
      · left
        intro i hi1 hi2
        have : i = p + 1 := by omega
        rw [this, dq_up hp]
        omega
      · rcases ih (by omega) (by omega) with h | ⟨e, he, hE⟩
        · have hn := h n (by omega) (Nat.le_refl _)
          rcases bit_of (show n < l.length by omega) with hb | hb
          · left
            intro i hi1 hi2
            by_cases hi : i = n + 1
            · rw [hi, dq_up hb]
              omega
            · exact h i hi1 (by omega)
          · by_cases hd : dq l (n + 1) = dq l p
            · exact .inr ⟨n, Nat.lt_succ_self _, by omega, by omega, hd, h⟩
            · left
              intro i hi1 hi2
              by_cases hi : i = n + 1
              · rw [hi]
                have := dq_dn hb
                omega
              · exact h i hi1 (by omega)
        · exact .inr ⟨e, Nat.lt_succ_of_lt he, hE⟩
  rcases step l.length hl (Nat.le_refl _) with h | ⟨e, _, h⟩
  · have h1 := h l.length hl (Nat.le_refl _)
    have h2 := W.dq0 (Nat.le_of_lt hl)
    rw [W.dqE] at h1
    omega
  · exact ⟨e, h⟩
theorem Ends.fd (E : Ends l p e) : fd l p (dq l p) = some e := fd_some (Nat.le_of_lt E.lt) E.le E.at_ fun k h1 h2 z => by
  have := E.up (k + 1) (by omega) (by omega)
  omega
theorem Ends.en (E : Ends l p e) : en l p = e := by unfold Tw.en; rw [E.fd]; rfl
theorem ends_en (W : okT l) (hp : l[p]? = some true) : Ends l p (en l p) := by
  obtain ⟨e, E⟩ := ends_ex W hp
  rw [E.en]
  exact E
theorem Ends.pre (W : okT l) (hp : l[p]? = some true) (E : Ends l p e) (h1 : p < i) (h2 : i ≤ e) : ∃ r, stk l i = stk l p ++ [p] ++ r := by
  induction i with
  | zero => omega
  | succ i ih =>
    by_cases h0 : i = p
    · subst h0
      exact ⟨[], by rw [stk_up hp, List.append_nil]⟩
    · obtain ⟨r, hr⟩ := ih (by omega) (by omega)
      by_cases hb : l[i]? = some true
      · exact ⟨r ++ [i], by rw [stk_up hb, hr, List.append_assoc]⟩
      · have hlen := stk_len W (t := i + 1) (by have := E.le; omega)
        have hlp := stk_len W (t := p) (Nat.le_of_lt (len_of hp))
        have h3 := E.up (i + 1) h1 h2
        rw [stk_dn hb, hr, List.length_dropLast, List.length_append, List.length_append] at hlen
        have hlen : (((stk l p).length + 1 + r.length - 1 : Nat) : Int) = dq l (i + 1) := hlen
        have hr0 : r ≠ [] := fun z => by subst z; simp at hlen; omega
        exact ⟨r.dropLast, by rw [stk_dn hb, hr, List.dropLast_append_of_ne_nil hr0]⟩
theorem Ends.last (W : okT l) (hp : l[p]? = some true) (E : Ends l p e) : stk l e = stk l p ++ [p] ∧ l[e]? = some false ∧ stk l (e + 1) = stk l p := by
  obtain ⟨r, hr⟩ := E.pre W hp E.lt (Nat.le_refl _)
  have hb : l[e]? = some false := by
    rcases bit_of E.le with hb | hb
    · have := dq_up hb
      have := E.up e E.lt (Nat.le_refl _)
      have := E.at_
      omega
    · exact hb
  have hlen := stk_len W (t := e) (Nat.le_of_lt E.le)
  have hlp := stk_len W (t := p) (Nat.le_of_lt (len_of hp))
  have hd := dq_dn hb
  have ha := E.at_
  rw [hr, List.length_append, List.length_append] at hlen
  have hlen : (((stk l p).length + 1 + r.length : Nat) : Int) = dq l e := hlen
  have hr0 : r = [] := List.eq_nil_of_length_eq_zero (by omega)
  subst hr0
  rw [List.append_nil] at hr
  refine ⟨hr, hb, ?_⟩
  rw [stk_dn (by rw [hb]; decide), hr, List.dropLast_concat]
theorem open_iff (W : okT l) (hp : l[p]? = some true) (ht : t ≤ l.length) : p ∈ stk l t ↔ p < t ∧ t ≤ en l p := by
  have E := ends_en W hp
  constructor
  · intro h
    refine ⟨(stk_mem h).1, ?_⟩
    rcases Nat.lt_or_ge (en l p) t with h1 | h1
    · have h2 := stk_keep h (Nat.lt_succ_of_lt E.lt) h1
      rw [(E.last W hp).2.2] at h2
      exact absurd (stk_mem h2).1 (Nat.lt_irrefl _)
    · exact h1
  · rintro ⟨h1, h2⟩
    obtain ⟨r, hr⟩ := E.pre W hp h1 h2
    rw [hr]
    exact List.mem_append_left _ (List.mem_append_right _ (List.mem_singleton.mpr rfl))
/-! ### who is above -/
def up (l : List Bool) (p : Nat) : Option Nat := (stk l p).getLast?
def isCh (l : List Bool) (p c : Nat) : Bool := bt true l c && (up l c == some p)
def below (l : List Bool) (p : Nat) : List Nat := fr (isCh l p) l.length
theorem isCh_iff : isCh l p c = true ↔ l[c]? = some true ∧ up l c = some p := by
  unfold isCh
  rw [Bool.and_eq_true, bt_iff, beq_iff_eq]
theorem up_mem (h : up l c = some p) : p ∈ stk l c := List.mem_of_getLast? h
theorem up_stk (h : up l c = some p) : stk l c = stk l p ++ [p] := by
  have h2 := h
  unfold up at h2
  rw [List.getLast?_eq_getElem?] at h2
  have h3 := stk_pre h2
  have hne : stk l c ≠ [] := fun z => by rw [z] at h2; cases h2
  have h4 := List.dropLast_concat_getLast hne
  rw [List.dropLast_eq_take, ← h3] at h4
  unfold up at h
  rw [List.getLast?_eq_some_getLast hne] at h
  rw [Option.some.inj h] at h4
  exact h4.symm
theorem no_child (W : okT l) (hp : l[p]? = some true) (h : en l p < c) (hc : c < l.length) : isCh l p c = false := by
  rw [← Bool.not_eq_true, isCh_iff]
  rintro ⟨h1, h2⟩
  have := ((open_iff W hp (Nat.le_of_lt hc)).mp (up_mem h2)).2
  omega
/-- between a child and its end there is none -/
theorem no_child2 (W : okT l) (hc : isCh l p c = true) (h1 : c < i) (h2 : i ≤ en l c) : isCh l p i = false := by
  obtain ⟨hc1, hc2⟩ := isCh_iff.mp hc
  have E := ends_en W hc1
  rw [← Bool.not_eq_true, isCh_iff]
  rintro ⟨h3, h4⟩
  have h5 := (open_iff W hc1 (t := i) (Nat.le_of_lt (len_of h3))).mpr ⟨h1, h2⟩
  have h6 := stk_inc (l := l) (t := i)
  rw [up_stk h4] at h5 h6
  have hpc := (stk_mem (up_mem hc2)).1
  rcases List.mem_append.mp h5 with h7 | h7
  · have := (List.pairwise_append.mp h6).2.2 c h7 p (List.mem_singleton.mpr rfl)
    omega
  · have : c = p := by simpa using h7
    omega
/-- behind a child's end: the next one, or none any more -/
theorem next_child (W : okT l) (hc : isCh l p c = true) (hb : l[en l c + 1]? = some true) : isCh l p (en l c + 1) = true := by
  obtain ⟨hc1, hc2⟩ := isCh_iff.mp hc
  refine isCh_iff.mpr ⟨hb, ?_⟩
  unfold up
  rw [((ends_en W hc1).last W hc1).2.2]
  exact hc2
theorem last_child (W : okT l) (hc : isCh l p c = true) (hb : ¬ l[en l c + 1]? = some true) (h : en l c < i) : isCh l p i = false := by
  obtain ⟨hc1, hc2⟩ := isCh_iff.mp hc
  rw [← Bool.not_eq_true, isCh_iff]
  rintro ⟨h3, h4⟩
  have E := (ends_en W hc1).last W hc1
  have hpc := (stk_mem (up_mem hc2)).1
  have hlt := (ends_en W hc1).lt
  by_cases h0 : i = en l c + 1
  · rw [h0] at h3
    exact hb h3
  · have h5 := stk_keep (up_mem h4) (show p < en l c + 2 by omega) (by omega)
    rw [stk_dn hb, E.2.2, up_stk hc2, List.dropLast_concat] at h5
    exact absurd (stk_mem h5).1 (Nat.lt_irrefl _)
theorem first_child (W : okT l) (hp : l[p]? = some true) : (l[p + 1]? = some true → isCh l p (p + 1) = true) ∧ (l[p + 1]? = some false → ∀ i, isCh l p i = false) := by
  constructor
  · intro h
    refine isCh_iff.mpr ⟨h, ?_⟩
    unfold up
    rw [stk_up hp, List.getLast?_concat]
  · intro h i
    rw [← Bool.not_eq_true, isCh_iff]
    rintro ⟨h3, h4⟩
    have h1 := (stk_mem (up_mem h4)).1
    by_cases h0 : i = p + 1
    · rw [h0, h] at h3; cases h3
    · have h5 := stk_keep (up_mem h4) (show p < p + 2 by omega) (by omega)
      rw [stk_dn (by rw [h]; decide), stk_up hp, List.dropLast_concat] at h5
      exact absurd (stk_mem h5).1 (Nat.lt_irrefl _)
theorem next_bit (W : okT l) (hp : l[p]? = some true) : p + 1 < l.length := by
  have E := ends_en W hp
  have := E.lt
  have := E.le
  omega
theorem fr_skip {f : Nat → Bool} {a b : Nat} (h : a ≤ b) (h2 : ∀ i, a ≤ i → i < b → f i = false) : fr f b = fr f a := by
  induction b with
  | zero => rw [Nat.le_zero.mp h]
  | succ b ih =>
    by_cases e : a = b + 1
    · rw [e]
    · rw [fr_succ, if_neg (by rw [h2 b (by omega) (by omega)]; decide), List.append_nil]
      exact ih (by omega) fun i h3 h4 => h2 i h3 (by omega)
theorem child_lt (h : isCh l p c = true) : p < c := (stk_mem (up_mem (isCh_iff.mp h).2)).1
/-! ### the places of a depth ahead -/
def la (l : List Bool) (j : Nat) (d : Int) : Option Nat := ((List.range j).filter fun i => decide (dq l i = d)).getLast?
theorem la_some {d : Int} (h1 : i < j) (h2 : dq l i = d) (h3 : ∀ k, i < k → k < j → dq l k ≠ d) : la l j d = some i := by
  unfold la
  have e : ∀ n, i < n → n ≤ j → ((List.range n).filter fun i => decide (dq l i = d)) = ((List.range i).filter fun i => decide (dq l i = d)) ++ [i] := fun n hn hj => by
    induction n with
    | zero => omega
    | succ n ih =>
      rw [List.range_succ, List.filter_append]
      by_cases h0 : i = n
      · subst h0
        rw [List.filter_cons, if_pos (decide_eq_true h2)]
        rfl
      · rw [ih (by omega) (by omega), List.filter_cons, if_neg (by rw [decide_eq_true_eq]; exact h3 n (by omega) (by omega))]
        exact List.append_nil _
  rw [e j h1 (Nat.le_refl _), List.getLast?_concat]
theorem stk_dq (W : okT l) (h : (stk l t)[k]? = some c) (ht : t ≤ l.length) : dq l c = k := by
  have h1 := stk_pre h
  have hk := (List.getElem?_eq_some_iff.mp h).1
  have hc := stk_mem (List.mem_of_getElem? h)
  have h2 := stk_len W (t := c) (by omega)
  rw [h1, List.length_take, Nat.min_eq_left (Nat.le_of_lt hk)] at h2
  exact h2.symm
theorem stk_la (W : okT l) (h : (stk l t)[k]? = some c) (ht : t ≤ l.length) : la l t k = some c := by
  have hc := stk_mem (List.mem_of_getElem? h)
  refine la_some hc.1 (stk_dq W h ht) fun j h1 h2 z => ?_
  have hm := stk_keep (List.mem_of_getElem? h) h1 (Nat.le_of_lt h2)
  have E := ends_en W hc.2
  obtain ⟨r, hr⟩ := E.pre W hc.2 h1 ((open_iff W hc.2 (by omega)).mp hm).2
  have h3 := stk_len W (t := j) (by omega)
  have h4 := stk_len W (t := c) (by omega)
  rw [hr, List.length_append, List.length_append] at h3
  have h3 : (((stk l c).length + 1 + r.length : Nat) : Int) = dq l j := h3
  have h5 := stk_dq W h ht
  omega
/-! ### the least depth of a block -/
def lowF (l : List Bool) (b : Nat) : Nat → Int
  | 0 => l.length
  | k + 1 => if dq l (b * 32 + k + 1) < lowF l b k then dq l (b * 32 + k + 1) else lowF l b k
def lw (l : List Bool) (b : Nat) : Nat := (lowF l b 32).toNat
def lws (l : List Bool) : List Nat := (List.range (l.length / 32)).map (lw l)
theorem low_le {b : Nat} : ∀ {n : Nat}, lowF l b n ≤ l.length ∧ ∀ k, k < n → lowF l b n ≤ dq l (b * 32 + k + 1)
  | 0 => ⟨Int.le_refl _, fun k h => by omega⟩
  | n + 1 => by
    obtain ⟨h1, h2⟩ := low_le (b := b) (n := n)
    have e : lowF l b (n + 1) = if dq l (b * 32 + n + 1) < lowF l b n then dq l (b * 32 + n + 1) else lowF l b n := rfl
    rw [e]
    refine ⟨by split <;> omega, fun k hk => ?_⟩
    by_cases hkn : k = n
    · subst hkn
      split <;> omega
    · have := h2 k (by omega)
      split <;> omega
theorem low_ge {b : Nat} (W : okT l) : ∀ {n : Nat}, b * 32 + n ≤ l.length → 0 ≤ lowF l b n
  | 0, _ => by show (0 : Int) ≤ (l.length : Int); omega
  | n + 1, h => by
    have h1 := low_ge (b := b) W (n := n) (by omega)
    have h2 := W.dq0 (i := b * 32 + n + 1) (by omega)
    have e : lowF l b (n + 1) = if dq l (b * 32 + n + 1) < lowF l b n then dq l (b * 32 + n + 1) else lowF l b n := rfl
    rw [e]
    split <;> omega
theorem lw_le {b : Nat} (W : okT l) (h : b < l.length / 32) : ((lw l b : Nat) : Int) ≤ l.length ∧ ∀ k, k < 32 → ((lw l b : Nat) : Int) ≤ dq l (b * 32 + k + 1) := by
  have h1 := low_ge (b := b) W (n := 32) (by omega)
  unfold lw
  rw [Int.toNat_of_nonneg h1]
  exact low_le
theorem lw_nd {b : Nat} (W : okT l) (h : b < l.length / 32) : nd (lw l b) ≤ nd l.length := by
  have h1 := (lw_le W h).1
  have h2 : l.length < 2 ^ nd l.length := (nd_le _ _).mp (Nat.le_refl _)
  refine (nd_le _ _).mpr ?_
  omega
theorem lws_len : (lws l).length = l.length / 32 := by unfold lws; rw [List.length_map, List.length_range]
theorem lws_get {b : Nat} (h : b < l.length / 32) : (lws l)[b]? = some (lw l b) := by
  unfold lws
  rw [List.getElem?_map, List.getElem?_range h]
  rfl
/-! ### a node's own nodes -/
def own (l : List Bool) (p : Nat) : List Nat := (fr (bt true l) (en l p + 1)).drop (cn true l p)
def many (l : List Bool) (p : Nat) : Nat := (en l p + 1 - p) / 2
theorem cn_many (W : okT l) (hp : l[p]? = some true) : cn true l (en l p + 1) = cn true l p + many l p ∧ 2 * many l p = en l p + 1 - p := by
  have E := ends_en W hp
  have h1 := E.at_
  have h2 := E.le
  have h3 := E.lt
  rw [dq_cn (by omega), dq_cn (by omega)] at h1
  have h4 : cn true l p ≤ cn true l (en l p + 1) := cn_mono (by omega)
  unfold many
  omega
theorem own_get (W : okT l) (hp : l[p]? = some true) (h : i < many l p) : ∃ c, (pos true l)[cn true l p + i]? = some c ∧ (own l p)[i]? = some c ∧ l[c]? = some true ∧ p ≤ c ∧ c ≤ en l p := by
  have E := ends_en W hp
  obtain ⟨h1, h2⟩ := cn_many W hp
  have ht : (pos true l).take (cn true l (en l p + 1)) = fr (bt true l) (en l p + 1) := fr_take E.le
  have hl : (fr (bt true l) (en l p + 1)).length = cn true l p + many l p := h1
  have hx : cn true l p + i < (fr (bt true l) (en l p + 1)).length := by omega
  refine ⟨(fr (bt true l) (en l p + 1))[cn true l p + i], ?_, ?_, ?_⟩
  · rw [← List.getElem?_eq_getElem hx, ← ht, List.getElem?_take_of_lt (by omega)]
  · unfold own
    rw [List.getElem?_drop, List.getElem?_eq_getElem hx]
  · have hm := fr_mem.mp (List.getElem_mem hx)
    refine ⟨bt_iff.mp hm.2, ?_, by omega⟩
    have h3 : (fr (bt true l) (en l p + 1)).filter (fun i => decide (i ≥ p)) = (fr (bt true l) (en l p + 1)).drop (fr (bt true l) p).length := fr_ge (by have := E.lt; omega)
    have h4 : (fr (bt true l) (en l p + 1))[cn true l p + i] ∈ (fr (bt true l) (en l p + 1)).drop (fr (bt true l) p).length := List.mem_drop_iff_getElem.mpr ⟨i, by show i + cn true l p < _; omega, by congr 1⟩
    rw [← h3] at h4
    exact of_decide_eq_true (List.mem_filter.mp h4).2
theorem ownN_len (W : okT l) (hp : l[p]? = some true) : (own l p).length = many l p := by
  unfold own
  rw [List.length_drop]
  show cn true l (en l p + 1) - cn true l p = _
  rw [(cn_many W hp).1]
  omega
theorem own_eq (W : okT l) (hp : l[p]? = some true) : own l p = (pos true l).filter fun c => decide (p ≤ c ∧ c ≤ en l p) := by
  have E := ends_en W hp
  have h1 : (fr (bt true l) (en l p + 1)).filter (fun i => decide (i ≥ p)) = (fr (bt true l) (en l p + 1)).drop (fr (bt true l) p).length := fr_ge (by have := E.lt; omega)
  have h2 : (pos true l).filter (fun i => decide (i < en l p + 1)) = fr (bt true l) (en l p + 1) := fr_lt E.le
  unfold own
  rw [show cn true l p = (fr (bt true l) p).length from rfl, ← h1, ← h2, List.filter_filter]
  refine List.filter_congr fun c _ => ?_
  rw [Bool.eq_iff_iff]
  simp only [Bool.and_eq_true, decide_eq_true_eq]
  omega
theorem own_mem (W : okT l) (hp : l[p]? = some true) : c ∈ own l p ↔ l[c]? = some true ∧ p ≤ c ∧ c ≤ en l p := by
  rw [own_eq W hp, List.mem_filter, decide_eq_true_eq]
  unfold pos
  rw [fr_mem, bt_iff]
  exact ⟨fun h => ⟨h.1.2, h.2⟩, fun h => ⟨⟨len_of h.1, h.1⟩, h.2⟩⟩
def leaf (l : List Bool) (c : Nat) : Bool := l[c + 1]? == some false
def leaves (l : List Bool) (p : Nat) : Nat := ((own l p).filter (leaf l)).length
theorem leaf_iff (W : okT l) (hp : l[p]? = some true) : leaf l p = true ↔ below l p = [] := by
  unfold leaf
  rw [beq_iff_eq]
  obtain ⟨h1, h2⟩ := first_child W hp
  constructor
  · intro h
    unfold below fr
    rw [List.filter_eq_nil_iff]
    intro a _
    rw [h2 h a]
    decide
  · intro h
    rcases bit_of (next_bit W hp) with hb | hb
    · have : p + 1 ∈ below l p := fr_mem.mpr ⟨next_bit W hp, h1 hb⟩
      rw [h] at this
      cases this
    · exact hb
/-- the first of those furthest down -/
def dpF (l : List Bool) (os : List Nat) (p : Nat) : Nat := os.foldl (fun f o => if dq l f < dq l o then o else f) p
def dps (l : List Bool) (p : Nat) : Nat := dpF l (own l p) p
theorem dpF_mem : ∀ (os : List Nat) (p : Nat), dpF l os p = p ∨ dpF l os p ∈ os
  | [], p => .inl rfl
  | o :: os, p => by
    show dpF l os (if dq l p < dq l o then o else p) = p ∨ dpF l os (if dq l p < dq l o then o else p) ∈ o :: os
    split
    · rcases dpF_mem os o with h | h
      · exact .inr (by rw [h]; exact List.mem_cons_self)
      · exact .inr (List.mem_cons_of_mem _ h)
    · rcases dpF_mem os p with h | h
      · exact .inl h
      · exact .inr (List.mem_cons_of_mem _ h)
theorem dpF_le : ∀ (os : List Nat) (p : Nat), dq l p ≤ dq l (dpF l os p) ∧ ∀ o ∈ os, dq l o ≤ dq l (dpF l os p)
  | [], p => ⟨Int.le_refl _, fun o h => by cases h⟩
  | o :: os, p => by
    show dq l p ≤ dq l (dpF l os (if dq l p < dq l o then o else p)) ∧ ∀ x ∈ o :: os, dq l x ≤ dq l (dpF l os (if dq l p < dq l o then o else p))
    split
    · obtain ⟨h1, h2⟩ := dpF_le os o
      refine ⟨by omega, fun x hx => ?_⟩
      rcases List.mem_cons.mp hx with rfl | hx
      · exact h1
      · exact h2 x hx
    · obtain ⟨h1, h2⟩ := dpF_le os p
      refine ⟨h1, fun x hx => ?_⟩
      rcases List.mem_cons.mp hx with rfl | hx
      · omega
      · exact h2 x hx
/-- it is the first one of that depth -/
theorem dpF_first : ∀ (os : List Nat) (p : Nat), (p :: os).find? (fun o => decide (dq l o = dq l (dpF l os p))) = some (dpF l os p)
  | [], p => by
    show List.find? _ [p] = some p
    rw [List.find?_cons_of_pos]
    exact decide_eq_true rfl
  | o :: os, p => by
    have e : dpF l (o :: os) p = dpF l os (if dq l p < dq l o then o else p) := rfl
    by_cases h : dq l p < dq l o
    · rw [if_pos h] at e
      have h2 := (dpF_le (l := l) os o).1
      rw [e, List.find?_cons_of_neg (by rw [decide_eq_true_eq]; omega)]
      exact dpF_first os o
    · rw [if_neg h] at e
      have h2 := dpF_le (l := l) os p
      rw [e]
      have ih := dpF_first os p
      by_cases h3 : dq l p = dq l (dpF l os p)
      · rw [List.find?_cons_of_pos (by exact decide_eq_true h3)] at ih ⊢
        exact ih
      · rw [List.find?_cons_of_neg (by rw [decide_eq_true_eq]; exact h3)] at ih ⊢
        rw [List.find?_cons_of_neg (by rw [decide_eq_true_eq]; omega)]
        exact ih
def height (l : List Bool) (p : Nat) : Int := dq l (dps l p) - dq l p
end
end Tw

set_option maxHeartbeats 4000000
namespace Tw
open PySem PySem.Spec PyProof.Rows L2 LamX
/-! ### what the deeds of a wood tell -/
theorem la_none {l : List Bool} {j : Nat} {d : Int} (h : ∀ c, c < j → dq l c ≠ d) : la l j d = none := by
  unfold la
  rw [List.getLast?_eq_none_iff, List.filter_eq_nil_iff]
  intro c hc
  rw [decide_eq_true_eq]
  exact h c (List.mem_range.mp hc)
theorem dpF_snoc (l : List Bool) (os : List Nat) (o p : Nat) : dpF l (os ++ [o]) p = if dq l (dpF l os p) < dq l o then o else dpF l os p := by
  unfold dpF
  rw [List.foldl_append]
  rfl
theorem dps_one {l : List Bool} {j : Nat} (W : okT l) (hj : l[j]? = some true) : l[dps l j]? = some true := by
  unfold dps
  rcases dpF_mem (l := l) (own l j) j with h | h
  · rw [h]; exact hj
  · exact ((own_mem W hj).mp h).1
def ab (l : List Bool) (j s : Nat) : Option Nat := if s = 0 then some j else if (stk l j).length < s then none else (stk l j)[(stk l j).length - s]?
theorem ab_one {l : List Bool} {j : Nat} : ab l j 1 = up l j := by
  unfold ab up
  rw [if_neg (by decide), List.getLast?_eq_getElem?]
  split
  · rename_i h
    rw [List.getElem?_eq_none (by omega)]
  · rfl
def nx (l : List Bool) (j : Nat) : Option Nat := if l[en l j + 1]? = some true then some (en l j + 1) else none
def wh (l : List Bool) (j : Nat) : Option Nat := (up l j).map fun p => (fr (isCh l p) j).length
theorem flat_nats (L : List Nat) : (L.map fun i : Nat => V.int i).all flatV = true := by
  rw [List.all_eq_true]
  intro v hv
  obtain ⟨i, _, rfl⟩ := List.mem_map.mp hv
  rfl
theorem below_at {l : List Bool} {p j : Nat} (h : isCh l p j = true) : (below l p)[(fr (isCh l p) j).length]? = some j := fr_get (len_of (isCh_iff.mp h).1) h
theorem below_nd {l : List Bool} {p : Nat} : (below l p).Nodup := by
  unfold below fr
  exact List.Nodup.sublist List.filter_sublist List.nodup_range
theorem nodup_at {L : List Nat} (h : L.Nodup) {i k c : Nat} (h1 : L[i]? = some c) (h2 : L[k]? = some c) : i = k := by
  obtain ⟨hi, e1⟩ := List.getElem?_eq_some_iff.mp h1
  obtain ⟨hk, e2⟩ := List.getElem?_eq_some_iff.mp h2
  exact (List.getElem_inj h).mp (e1.trans e2.symm)
theorem up_one {l : List Bool} {j p : Nat} (h : up l j = some p) : l[p]? = some true := (stk_mem (up_mem h)).2
def lch (l : List Bool) (j : Nat) : Option Nat := (up l j).bind fun p => if (fr (isCh l p) j).length = 0 then none else (below l p)[(fr (isCh l p) j).length - 1]?
def isAb (l : List Bool) (i j : Nat) : Bool := decide (i ≤ j ∧ j ≤ en l i)
def ways (l : List Bool) (i : Nat) : List Nat := i :: (stk l i).reverse
def ab2 (l : List Bool) (i j : Nat) : Nat := ((ways l i).find? fun c => isAb l c j).getD 0
theorem ways_up {l : List Bool} {c b : Nat} (h : up l c = some b) : ways l c = c :: ways l b := by
  unfold ways
  rw [up_stk h, List.reverse_append]
  rfl
theorem root_all {l : List Bool} {j : Nat} (W : okT l) (hj : l[j]? = some true) : isAb l 0 j = true := by
  have E := ends_en W W.first
  have h1 := E.at_
  have h2 := E.le
  have h3 := len_of hj
  refine decide_eq_true ⟨Nat.zero_le _, ?_⟩
  by_cases h : en l 0 + 1 = l.length
  · omega
  · have := W.dq1 (i := en l 0 + 1) (by omega) (by omega)
    rw [h1, dq_zero] at this
    omega
theorem up_none {l : List Bool} {c : Nat} (W : okT l) (hc : l[c]? = some true) (h : up l c = none) : c = 0 := by
  unfold up at h
  rw [List.getLast?_eq_none_iff] at h
  have h1 := stk_len W (Nat.le_of_lt (len_of hc))
  rw [h] at h1
  rcases Nat.eq_zero_or_pos c with h0 | h0
  · exact h0
  · have := W.dq1 h0 (len_of hc)
    have h1 : (0 : Int) = dq l c := h1
    omega
def ln (l : List Bool) (j : Nat) : Option Nat := (pos true l).find? fun c => decide (j < c ∧ dq l c = dq l j)
theorem pos_at {l : List Bool} {k c : Nat} (h : (pos true l)[k]? = some c) : l[c]? = some true ∧ cn true l c = k := by
  have hm := fr_mem.mp (List.mem_of_getElem? h)
  have hc := bt_iff.mp hm.2
  refine ⟨hc, ?_⟩
  have hnd : (pos true l).Nodup := List.Nodup.sublist List.filter_sublist List.nodup_range
  exact nodup_at hnd (pos_get hc) h
theorem cn_lt {l : List Bool} {i j : Nat} (hi : l[i]? = some true) (h : i < j) : cn true l i < cn true l j := by
  have h1 : cn true l (i + 1) ≤ cn true l j := cn_mono h
  rw [cn_succ, if_pos (bt_iff.mpr hi)] at h1
  omega
theorem ln_some {l : List Bool} {j k c : Nat} (hj : l[j]? = some true) (hc : (pos true l)[k]? = some c) (hk : cn true l j < k) (hd : dq l c = dq l j) (hno : ∀ i d, cn true l j < i → i < k → (pos true l)[i]? = some d → dq l d ≠ dq l j) : ln l j = some c := by
  unfold ln
  obtain ⟨hk2, e⟩ := List.getElem?_eq_some_iff.mp hc
  rw [List.find?_eq_some_iff_getElem]
  refine ⟨decide_eq_true ⟨?_, hd⟩, k, hk2, e, fun i hi => ?_⟩
  · have h1 := (pos_at hc).2
    rcases Nat.lt_or_ge j c with h | h
    · exact h
    · have : cn true l c ≤ cn true l j := cn_mono h
      omega
  · rw [Bool.not_eq_true', decide_eq_false_iff_not]
    rintro ⟨h1, h2⟩
    have h3 : (pos true l)[i]? = some (pos true l)[i] := List.getElem?_eq_getElem (by omega)
    have h4 := (pos_at h3).2
    rcases Nat.lt_or_ge (cn true l j) i with h5 | h5
    · exact hno i _ h5 hi h3 h2
    · have := cn_lt hj h1
      omega
theorem pos_inc {l : List Bool} : (pos true l).Pairwise (· < ·) := by
  unfold pos fr
  exact List.Pairwise.sublist List.filter_sublist List.pairwise_lt_range
theorem getD_some {L : List Nat} {i c : Nat} (h : L[i]? = some c) : L.getD i 0 = c := by rw [List.getD_eq_getElem?_getD, h]; rfl
theorem scal_on : ∀ o o' : Option Nat, scal (on o) (on o') = true
  | none, none => rfl
  | none, some _ => rfl
  | some _, none => rfl
  | some _, some _ => rfl
theorem nself {v : V} (h : (!decide (v = v)) = true) : False := by
  rw [decide_eq_true rfl] at h
  cases h
theorem dp_nats {K : PySem.W.Frag} {H : Hp} {a : Addr} {L : List Nat} (e : H a = some (.lst (L.map fun i : Nat => .int i))) : Dp K H (.ref a) (.list ((L.map Int.ofNat).map .int)) := dp_ints (SqL.of (by rw [e, List.map_map]; rfl))
theorem nats_ext {L : List Nat} {n : Nat} (h : n = L.length) : ((List.range n).map fun i => V.int ((L.getD i 0 : Nat) : Int)) = L.map fun i : Nat => V.int i := by
  subst h
  refine List.ext_getElem (by simp) fun i h1 h2 => ?_
  have h3 : i < L.length := by simpa using h1
  simp [List.getD_eq_getElem?_getD, List.getElem?_eq_getElem h3]
theorem ab_ways {l : List Bool} {p s : Nat} : ab l p s = (ways l p)[s]? := by
  unfold ab ways
  cases s with
  | zero => rfl
  | succ k =>
    rw [if_neg (Nat.succ_ne_zero k), List.getElem?_cons_succ]
    by_cases h : k < (stk l p).length
    · rw [if_neg (by omega), List.getElem?_reverse h]
      congr 1
      omega
    · rw [if_pos (by omega), List.getElem?_eq_none (by rw [List.length_reverse]; omega)]
theorem isAb_ways {l : List Bool} {c j : Nat} (W : okT l) (hc : l[c]? = some true) (hj : l[j]? = some true) : isAb l c j = decide (c ∈ ways l j) := by
  rw [Bool.eq_iff_iff, decide_eq_true_eq]
  unfold isAb ways
  rw [decide_eq_true_eq, List.mem_cons, List.mem_reverse, open_iff W hc (Nat.le_of_lt (len_of hj))]
  have := (ends_en W hc).lt
  omega
theorem ways_one {l : List Bool} {c j : Nat} (hj : l[j]? = some true) (h : c ∈ ways l j) : l[c]? = some true := by
  unfold ways at h
  rcases List.mem_cons.mp h with rfl | h
  · exact hj
  · exact (stk_mem (List.mem_reverse.mp h)).2
theorem root_in {l : List Bool} {j : Nat} (W : okT l) (hj : l[j]? = some true) : 0 ∈ ways l j := by
  have h := root_all W hj
  rw [isAb_ways W W.first hj] at h
  exact of_decide_eq_true h
theorem shared_ab {l : List Bool} {i j : Nat} (W : okT l) (hi : l[i]? = some true) (hj : l[j]? = some true) : ((ways l i).filter fun c => decide (c ∈ ways l j))[0]? = some (ab2 l i j) := by
  rw [← List.head?_eq_getElem?, List.head?_filter]
  have e : (ways l i).find? (fun c => decide (c ∈ ways l j)) = (ways l i).find? fun c => isAb l c j := by
    have hall : ∀ c ∈ ways l i, isAb l c j = decide (c ∈ ways l j) := fun c hc => isAb_ways W (ways_one hi hc) hj
    generalize ways l i = A at hall ⊢
    induction A with
    | nil => rfl
    | cons a A ih =>
      have h1 := hall a List.mem_cons_self
      have ih := ih fun c hc => hall c (List.mem_cons_of_mem _ hc)
      rw [List.find?_cons, List.find?_cons, h1, ih]
  rw [e]
  unfold ab2
  cases h : (ways l i).find? fun c => isAb l c j with
  | some c => rfl
  | none =>
    rw [List.find?_eq_none] at h
    exact absurd (root_all W hj) (h 0 (root_in W hi))
theorem nx_below {l : List Bool} {b p : Nat} (W : okT l) (hc : isCh l b p = true) : nx l p = (below l b)[(fr (isCh l b) p).length + 1]? := by
  have hp := (isCh_iff.mp hc).1
  have E := ends_en W hp
  have e1 : fr (isCh l b) (p + 1) = fr (isCh l b) p ++ [p] := by rw [fr_succ, if_pos hc]
  unfold nx
  by_cases hb : l[en l p + 1]? = some true
  · rw [if_pos hb]
    have h1 := below_at (next_child W hc hb)
    have h2 : fr (isCh l b) (en l p + 1) = fr (isCh l b) (p + 1) := fr_skip (a := p + 1) (b := en l p + 1) (by have := E.lt; omega) fun i h1 h2 => no_child2 W hc (by omega) (by omega)
    rw [h2, e1, List.length_append] at h1
    exact h1.symm
  · rw [if_neg hb]
    have h2 : below l b = fr (isCh l b) (p + 1) := fr_skip (a := p + 1) (b := l.length) (len_of hp) fun i h1 h2 => by
      rcases Nat.lt_or_ge (en l p) i with h3 | h3
      · exact last_child W hc hb h3
      · exact no_child2 W hc (by omega) h3
    rw [h2, e1, List.getElem?_eq_none (by rw [List.length_append]; exact Nat.le_refl _)]
theorem nx_root {l : List Bool} {p : Nat} (W : okT l) (hp : l[p]? = some true) (h : up l p = none) : nx l p = none := by
  have h0 := up_none W hp h
  subst h0
  have E := ends_en W hp
  refine if_neg fun z => ?_
  have h1 := len_of z
  have h2 := W.dq1 (i := en l 0 + 1) (by omega) h1
  rw [E.at_, dq_zero] at h2
  omega
theorem own_head {l : List Bool} {p : Nat} (W : okT l) (hp : l[p]? = some true) : ∃ t, own l p = p :: t := by
  have hm : 0 < many l p := by
    have := (cn_many W hp).2
    have := (ends_en W hp).lt
    omega
  obtain ⟨c, h1, h2, _⟩ := own_get W hp hm
  rw [Nat.add_zero, pos_get hp] at h1
  cases h1
  cases h : own l p with
  | nil => rw [h] at h2; cases h2
  | cons a t =>
    rw [h] at h2
    cases h2
    exact ⟨t, rfl⟩
theorem own_deep {l : List Bool} {p : Nat} (W : okT l) (hp : l[p]? = some true) : ((own l p).filter fun c => decide (dq l c = dq l (dps l p)))[0]? = some (dps l p) := by
  rw [← List.head?_eq_getElem?, List.head?_filter]
  have h := dpF_first (l := l) (own l p) p
  obtain ⟨t, ht⟩ := own_head W hp
  unfold dps
  rw [ht] at h ⊢
  by_cases h2 : dq l p = dq l (dpF l (p :: t) p)
  · rw [List.find?_cons_of_pos (by exact decide_eq_true h2)] at h ⊢
    exact h
  · rw [List.find?_cons_of_neg (by rw [decide_eq_true_eq]; exact h2)] at h
    exact h
theorem inV_nats (c : Nat) : ∀ L : List Nat, inV (.int c) (L.map fun i : Nat => V.int i) = decide (c ∈ L)
  | [] => by rfl
  | x :: L => by
    have ih := inV_nats c L
    show (eqV (V.int x) (V.int c) || inV (.int c) (L.map fun i : Nat => V.int i)) = _
    rw [ih, Bool.eq_iff_iff, Bool.or_eq_true, decide_eq_true_eq, decide_eq_true_eq, List.mem_cons]
    have : eqV (V.int x) (V.int c) = true ↔ c = x := by
      show ((x : Int) == (c : Int)) = true ↔ _
      rw [beq_iff_eq]
      omega
    rw [this]
end Tw

set_option maxHeartbeats 4000000
namespace Tw
open PySem PySem.Spec PyProof.Rows L2 LamX
/-! ### text[::-1] -/
def tRevS (te : TE) : TE := fun σ H Q => te σ H fun x H1 => ∃ z, x = .str z ∧ z.length ≤ sizeLine ∧ Q (.str (S z.cps.toList.reverse)) H1
theorem rev_eq (z : Str) (u : Tok) : Txt.sliceBy z none none (-1, u) = S z.cps.toList.reverse := by
  have h := step_rev_list z u
  have e : Txt.sliceBy z none none (-1, u) = S (Txt.sliceBy z none none (-1, u)).cps.toList := S_of _
  rw [e, h]
  congr 1
  apply List.ext_getElem
  · simp [Str.length]
  · intro i h1 h2
    have h1 : i < z.cps.size := by simpa [Str.length] using h1
    rw [List.getElem_map, List.getElem_range, List.getElem_reverse]
    simp [Str.length, Array.getD]
    rw [dif_pos (by omega)]
theorem pe_revS {X : Cx} {e : Expr} {te : TE} {k : Nat} {p1 p2 p3 pos : Pos} (he : PE X e te) : PE X (.Subscript e (.Slice none none (some (.UnaryOp .USub (.Constant (.int 1) k p1) p2)) p3) pos) (tRevS te) := by
  refine ⟨fun pins s σ H Q I h => ?_⟩
  refine Subscript_ (thn (he.run pins s σ H _ I h) fun v s1 ⟨x, H1, I1, r1, q1⟩ => ?_)
  obtain ⟨z, ex, hz, q⟩ := q1
  subst ex
  obtain ⟨t, rfl⟩ := r1
  have hst : PO X (some (.UnaryOp .USub (.Constant (.int 1) k p1) p2)) (tPart (tUn (rU fun i => .int (-i)) (tC (.int 1)))) := po_some (pe_un un_neg pe_int)
  refine wpAny_Slice (thn (po_none.run pins s1 σ H1 (fun o H2 => o = none ∧ H2 = H1) I1 ⟨rfl, rfl⟩) fun vl s2 ⟨l, H2, I2, pl, el, e2⟩ => ?_)
  subst el e2
  refine thn (po_none.run pins s2 σ H2 (fun o H3 => o = none ∧ H3 = H2) I2 ⟨rfl, rfl⟩) fun vu s3 ⟨u, H3, I3, pu, eu, e3⟩ => ?_
  subst eu e3
  refine thn (hst.run pins s3 σ H3 (fun o H4 => o = some (-1) ∧ H4 = H3) I3 ⟨1, rfl, -1, rfl, rfl, rfl⟩) fun vs s4 ⟨o, H4, I4, ps, eo, e4⟩ => ?_
  subst eo e4
  have I5 : Inv X pins σ H4 { s4 with heap := s4.heap.push { cls := .type "slice", data := .fields #[vl, vu, vs] } } := I4.kept (t' := s4.toks) fun b ob q => Heap.get?_push_of_some _ q
  obtain ⟨l, rfl, hl⟩ := IsPart.raw pl
  obtain ⟨u, rfl, hu⟩ := IsPart.raw pu
  obtain ⟨st, rfl, hs⟩ := IsPart.raw ps
  cases l with
  | some l => cases hl
  | none =>
  cases u with
  | some u => cases hu
  | none =>
  cases st with
  | none => cases hs
  | some st =>
  obtain ⟨st, tk⟩ := st
  have hs : st = -1 := Option.some.inj hs
  subst hs
  refine tail_any (ops := [.str z t, .ref s4.heap.objs.size]) (typeIs_str _ _ _) F.slot_str_getitem.lookup ?_ (by with_unfolding_all rfl)
  refine wpAny_getItem_str_slice (l := none) (u := none) (st := some (-1, tk)) ⟨_, Heap.get?_push_size _ rfl, rfl, rfl⟩ rfl ?_
  refine post_val_or_str ⟨Nat.le_trans (Txt.sliceBy_le z none none (-1, tk) (show (-1 : Int) ≠ 0 by decide)) hz, fun t' c => ?_⟩
  exact ⟨.str (S z.cps.toList.reverse), H4, I5.tok _, ⟨t', by show Value.str (Txt.sliceBy z none none (-1, tk)) t' = _; rw [rev_eq]⟩, q⟩
end Tw

set_option maxHeartbeats 4000000
namespace Tw
open PySem PySem.Spec PyProof.Rows L2 LamX
/-! ### sorted(dict), keys hI, any number of them -/
def rSortD : List V → Hp → VK → Prop := fun args H Q => ∃ (d : Addr) (es : List (L2.Key × V)) (ns : List Int), args = [.ref d] ∧ Rd H d (.dK es) ∧ es.map Prod.fst = ns.map Sum.inl ∧ ns.length ≤ 100000 ∧
  ∀ (zs : List Int) (l : Addr), zs.Perm ns → zs.Pairwise (· ≤ ·) → H l = none → Q (.ref l) (upd H l (.lst (zs.map V.int)))
theorem key_int {n : Int} {u : Value} (h : keyIs (Sum.inl n) u = true) : ∃ t, u = .int n t := by
  rcases keyIs_shape h with ⟨m, t, e, r⟩ | ⟨_, _, e, _⟩
  · injection e with e
    exact ⟨t, by rw [r, e]⟩
  · exact nomatch e
theorem cr_sortedDict {X : Cx} (cm : X.calm = true) : CallR X (.builtin "sorted") rSortD := by
  intro pins st σ H args us Q I ra hyp
  obtain ⟨d, es, ns, rfl, hd, hk, hn, fin⟩ := hyp
  have eu : us = [.ref d] := by
    obtain ⟨u, rfl, ru⟩ := vals1 ra
    cases ru
    rfl
  subst eu
  obtain ⟨hz, hnm, fs, kv, dic⟩ := dk_rd I.hok hd
  obtain ⟨epoch, hda⟩ := dic.dictAt
  have hfst : fs.map Prod.fst = ns.map Sum.inl := by rw [← hk]; exact kv.keys.symm
  have hlen : fs.length = ns.length := by simpa using congrArg List.length hfst
  have big : ∀ k, k ≤ 100000 → k ≤ sizeLine := fun k h => Nat.le_trans h (by decide)
  refine Calls.call_function_entry PyProof.Rows.kind_sorted PyProof.Rows.plain_sorted PyProof.Rows.entry_sorted (PyProof.Rows.args_sorted1 _) ?_
  unfold Builtin.«sorted»
  refine wpAny_bind (m := checkCount "sorted" 1 1 _) (wpAny_pure (wpAny_bind (PySem.W.kdu_collect (A := X.A.in1) (PySem.W.kdl_dict (knd := mixKind X.prog X.w) (kvs := fs) (ep := epoch) hnm) (I.ok.hd cm) hda (big _ (hlen ▸ hn)) fun h1 tk got keep tells => ?_)))
  have glen : got.toList.length = ns.length := by simpa [hlen] using tells.1
  have hI : IntsAre got.toList ns := ints_each glen fun j v e => by
    obtain ⟨k, x, e1, e2⟩ := tells.2 j v (by simpa using e)
    have e3 : (ns.map Sum.inl)[j]? = some k := by rw [← hfst, List.getElem?_map, e1]; rfl
    rw [List.getElem?_map] at e3
    obtain ⟨n, e4, rfl⟩ := Option.map_eq_some_iff.mp e3
    obtain ⟨t, ev⟩ := key_int (n := n) e2
    exact ⟨n, t, e4, ev⟩
  have J : Inv X pins σ H { st with heap := h1, toks := tk } := I.kept keep
  refine wpAny_bind (wpAny_newList ?_ (big _ (glen ▸ hn)))
  have new : (h1.push (seqObj "list" got.toList.toArray 0)).get? h1.objs.size = some (seqObj "list" got.toList.toArray 0) := Heap.get?_push_size _ rfl
  show wpAny _ _ _ _ _ { st with heap := h1.push (seqObj "list" got.toList.toArray 0), toks := tk }
  refine wpAny_bind (wpAny_holding (wpAny_call_entry PyProof.Rows.slot_list_sort ⟨_, new, rfl⟩ PyProof.Rows.entry_list_sort (SrtO.list_sort_ord (s := { st with heap := h1.push (seqObj "list" got.toList.toArray 0), toks := tk }) SrtO.swo_int new
    (big _ (glen ▸ hn)) (fun two => SrtO.ints_sortable hI two) fun out s1 s2 => ⟨_, rfl, ?_⟩) (PyProof.Rows.args_list_sort _)))
  obtain ⟨o1, o2, o3⟩ := SrtO.ints_out hI s1 s2
  obtain ⟨e2, at2⟩ := PyProof.Rows.sortedHeap_at (vs := got.toList) (out := out.toArray) new
  have fits : ((out.map SrtO.iv).map V.int).length ≤ sizeLine := by
    rw [List.length_map, o2.length_eq]
    exact big _ hn
  refine wpAny_pure ⟨_, rfl, .ref h1.objs.size, _, J.laid (o := .lst ((out.map SrtO.iv).map V.int)) (t' := tk) (fun b u e => ?_) (Nat.le_refl _) ⟨fits, out, e2, vals_of_ints o1, at2⟩, rfl, fin _ _ o2 o3 (J.hok.fresh (Nat.le_refl _))⟩
  have hb := Heap.lt_size e
  rw [PyProof.Rows.sortedHeap_old (Nat.ne_of_lt hb) (by rw [size_push']; exact Nat.lt_succ_of_lt hb)]
  exact Heap.get?_push_of_some _ e
end Tw

set_option maxHeartbeats 4000000
namespace Tw
open PySem PySem.Spec PyProof.Rows L2 LamX
/-! ### a new heap by a name -/
section
variable {lo : Prop} {T : List (Addr × Str)} {K : PySem.W.Frag} {H H' : Hp} {p : Addr} {o : HO} {Q : VK}
theorem newE (h : upd H p o = H') (n : H p = none) : Xg lo T H H' := h ▸ .new n
theorem atE (h : upd H p o = H') : H' p = some o := h ▸ upd_same ..
theorem neS_same {z : Str} (hz : PyData.strOk z = true) (q : Q (.bl false) H) : rNeD K (.str z) (.str z) H Q := neD_same (.str _) (.str _) (sh_str hz) q
theorem neSC {σ : L2.St} {z : Str} (hz : PyData.strOk z = true) (q : Q (.bl false) H) : tC (.str z) σ H fun y H2 => rNeD K (.str z) y H2 Q := neS_same hz q
end
theorem len_app (a b : Str) : (a ++ b).length = a.length + b.length := by
  show (a.cps ++ b.cps).size = a.cps.size + b.cps.size
  exact Array.size_append
theorem lapp {a b : Str} {i j : Nat} (ha : a.length ≤ i) (hb : b.length ≤ j) : (a ++ b).length ≤ i + j := by
  rw [len_app]
  exact Nat.add_le_add ha hb
section
variable {X : Cx} {K : PySem.W.Frag}
theorem pe_revLK (eK : X.K = K) {e : Expr} {te : TE} {k : Nat} {p1 p2 p3 pos : Pos} (he : PE X e te) : PE X (.Subscript e (.Slice none none (some (.UnaryOp .USub (.Constant (.int 1) k p1) p2)) p3) pos) (tRevL K te) := by subst eK; exact pe_revL he
end
section
variable {X : Cx} {o i value : Expr} {pos pos' : Pos} {td ty tv : TE}
theorem pe_dgetU (hu : X.A.units + 64 < cLine) (ho : PE X o td) (hi : PE X i ty) (hs : NoSl i) : PE X (.Subscript o i pos) (tDGet td ty) := pe_dget (by omega) ho hi hs
theorem ps_dputU (hu : X.A.units + 64 < cLine) (ho : PE X o td) (hi : PE X i ty) (hv : PE X value tv) (hs : swapsWith value (some (.Subscript o i pos')) pos.line X.env = pure false) : PS X (.Assign [.Subscript o i pos'] value pos) (sDPut td ty tv) := ps_dput (by omega) ho hi hv hs
end
theorem mul_one (n : Nat) (h : 2 ≤ n) (b : Bool) : Txt.mul (sb [b]) (n : Int) = sb (List.replicate n b) := by
  rw [mul_sb [b] n h (by simp)]
  congr 1
  clear h
  induction n with
  | zero => rfl
  | succ n ih => rw [List.replicate_succ, List.flatten_cons, ih, List.replicate_succ]; rfl
end Tw

set_option maxHeartbeats 4000000
namespace Tw
open PySem PySem.Spec PyProof.Rows L2 LamX
/-! ### sorted(texts), any number of them -/
def LeS (a b : Str) : Prop := a.cps.toList ≤ b.cps.toList
theorem LeS.trans {a b c : Str} (h1 : LeS a b) (h2 : LeS b c) : LeS a c := List.le_trans h1 h2
theorem LeS.asym {a b : Str} (h1 : LeS a b) (h2 : LeS b a) : a = b := by
  have e := List.le_antisymm h1 h2
  cases a
  cases b
  exact congrArg Str.mk (Array.toList_inj.mp e)
theorem ris_le : ∀ (l : List Str) (p : Str), risingS p l = true → (p :: l).Pairwise LeS
  | [], p, _ => List.pairwise_singleton _ _
  | x :: r, p, h => by
    have h' : (!ltCps x.cps.toList p.cps.toList && risingS x r) = true := h
    rw [Bool.and_eq_true, ltCps_eq] at h'
    obtain ⟨h1, h2⟩ := h'
    have h1 : LeS p x := by
      intro z
      rw [decide_eq_true z] at h1
      cases h1
    have ih := ris_le r x h2
    refine List.pairwise_cons.mpr ⟨fun y hy => ?_, ih⟩
    rcases List.mem_cons.mp hy with rfl | hy
    · exact h1
    · exact h1.trans ((List.pairwise_cons.mp ih).1 y hy)
theorem sorted_le {l : List Str} (h : sortedS l = true) : l.Pairwise LeS := by
  cases l with
  | nil => exact .nil
  | cons x r => exact ris_le r x h
theorem sorted_one {l m : List Str} (h1 : sortedS l = true) (h2 : m.Pairwise LeS) (p : l.Perm m) : l = m :=
  List.Perm.eq_of_pairwise (fun a b _ _ x y => x.asym y) (sorted_le h1) h2 p
def rSortS (K : PySem.W.Frag) : List V → Hp → VK → Prop := fun vs H Q => ∃ (a : Addr) (xs : List Str), vs = [V.ref a] ∧ SqL K H a (xs.map V.str) ∧
  ∀ (ys : List Str) (p : Addr), ys.Perm xs → sortedS ys = true → H p = none → Q (.ref p) (upd H p (.lst (ys.map V.str)))
theorem cr_sortS {X : Cx} : CallR X (.builtin "sorted") (rSortS X.K) := by
  intro pins st σ H args us Q I ra hyp
  obtain ⟨a, xs, rfl, hs, fin⟩ := hyp
  obtain ⟨its, rv, hl, hz⟩ := I.list hs
  rw [Vals.ref1 ra]
  have n0 := rv.length
  have fit : its.length ≤ sizeLine := by rw [← n0]; exact hz
  refine PyProof.Rows.sorted_strsAny hl.isList rv.strs fit fun out ys h1 h2 h3 => ?_
  obtain ⟨ep, at2⟩ := PyProof.Rows.sortedAll_at st.heap its out
  have fits : (ys.map V.str).length ≤ sizeLine := by
    rw [List.length_map, h2.length_eq]
    rw [List.length_map] at hz
    exact hz
  exact ⟨.ref _, _, I.laid (o := .lst (ys.map V.str)) (t' := st.toks) (fun _ _ => PyProof.Rows.sortedAll_old) (Nat.le_succ _) ⟨fits, _, ep, vals_of_strs h1, at2⟩, rfl, fin _ _ h2 h3 (I.hok.fresh (Nat.le_succ _))⟩
theorem cr_sortSK {X : Cx} {K : PySem.W.Frag} (eK : X.K = K) : CallR X (.builtin "sorted") (rSortS K) := by subst eK; exact cr_sortS
theorem op_ltS {X : Cx} : OpR X (compareOp .Lt) (fun x y H Q => ∃ i j, x = .str i ∧ y = .str j ∧ Q (.bl (decide (i.cps.toList < j.cps.toList))) H) := op_lt_str
end Tw

set_option maxHeartbeats 4000000
namespace Tw
/-! ### words by levels -/
abbrev Wd := List Bool
def bk (k : Nat) (x : Wd) : Bool := x.getD k false
def rowW (W : List Wd) : Nat → List Wd
  | 0 => W
  | k + 1 => (rowW W k).filter (fun x => bk k x == false) ++ (rowW W k).filter (fun x => bk k x == true)
def rowB (W : List Wd) (k : Nat) : List Bool := (rowW W k).map (bk k)
def gnn (r : List Bool) (p : Nat) (b : Bool) : Nat := if b then cn false r r.length + cn true r p else cn false r p
/-- a place followed k levels along a word -/
def pp (W : List Wd) (x : Wd) (p : Nat) : Nat → Nat
  | 0 => p
  | k + 1 => gnn (rowB W k) (pp W x p k) (bk k x)
def same (k : Nat) (x y : Wd) : Bool := y.take k == x.take k
theorem filt_two {α : Type} (f : α → Bool) : ∀ l : List α, (l.filter (fun x => f x == false)).length + (l.filter (fun x => f x == true)).length = l.length
  | [] => rfl
  | a :: l => by
    have ih := filt_two f l
    cases h : f a
    · rw [List.filter_cons_of_pos (by rw [h]; rfl), List.filter_cons_of_neg (by rw [h]; decide), List.length_cons, List.length_cons]
      omega
    · rw [List.filter_cons_of_neg (by rw [h]; decide), List.filter_cons_of_pos (by rw [h]; rfl), List.length_cons, List.length_cons]
      omega
theorem rowW_succ (W : List Wd) (k : Nat) : rowW W (k + 1) = (rowW W k).filter (fun x => bk k x == false) ++ (rowW W k).filter (fun x => bk k x == true) := rfl
theorem rowW_len (W : List Wd) : ∀ k, (rowW W k).length = W.length
  | 0 => rfl
  | k + 1 => by
    rw [rowW_succ, List.length_append, filt_two (bk k), rowW_len W k]
theorem rowB_len (W : List Wd) (k : Nat) : (rowB W k).length = W.length := by
  unfold rowB
  rw [List.length_map, rowW_len]
theorem rowW_mem (W : List Wd) : ∀ (k : Nat) (x : Wd), x ∈ rowW W k ↔ x ∈ W
  | 0, x => Iff.rfl
  | k + 1, x => by
    rw [rowW_succ, List.mem_append, List.mem_filter, List.mem_filter, ← rowW_mem W k x]
    constructor
    · rintro (h | h) <;> exact h.1
    · intro h
      cases e : bk k x
      · exact .inl ⟨h, rfl⟩
      · exact .inr ⟨h, rfl⟩
theorem take_bk {k : Nat} {y : Wd} (h : k < y.length) : y.take (k + 1) = y.take k ++ [bk k y] := by
  rw [List.take_add_one, List.getElem?_eq_getElem h]
  unfold bk
  rw [List.getD_eq_getElem?_getD, List.getElem?_eq_getElem h]
  rfl
theorem same_succ {k : Nat} {x y : Wd} (hx : k < x.length) (hy : k < y.length) : same (k + 1) x y = (same k x y && (bk k y == bk k x)) := by
  unfold same
  rw [take_bk hx, take_bk hy, Bool.eq_iff_iff, beq_iff_eq, Bool.and_eq_true, beq_iff_eq, beq_iff_eq]
  constructor
  · intro h
    have l : (y.take k).length = (x.take k).length := by rw [List.length_take, List.length_take]; omega
    obtain ⟨h1, h2⟩ := List.append_inj h l
    exact ⟨h1, by simpa using h2⟩
  · rintro ⟨h1, h2⟩
    rw [h1, h2]
theorem count_map {α : Type} (f : α → Bool) (b : Bool) : ∀ l : List α, (l.map f).count b = (l.filter (fun y => f y == b)).length
  | [] => rfl
  | a :: l => by
    rw [List.map_cons, List.count_cons, count_map f b l, List.filter_cons]
    cases h : (f a == b)
    · rfl
    · rfl
theorem cn_cut {b : Bool} {r : List Bool} {q : Nat} (h : q ≤ r.length) : cn b r q = (r.take q).count b := by
  rw [← cn_take h, cn_all]
theorem filter_same {W : List Wd} {k : Nat} {x : Wd} {b : Bool} (hx : k < x.length) (hW : ∀ y ∈ W, k < y.length) (hb : bk k x = b) : (W.filter (same k x)).filter (fun y => bk k y == b) = W.filter (same (k + 1) x) := by
  rw [List.filter_filter]
  refine List.filter_congr fun y hy => ?_
  rw [same_succ hx (hW y hy), hb, Bool.and_comm]
theorem pp_congr {W : List Wd} {x y : Wd} {p : Nat} : ∀ {k : Nat}, (∀ i, i < k → bk i x = bk i y) → pp W x p k = pp W y p k
  | 0, _ => rfl
  | k + 1, h => by
    show gnn (rowB W k) (pp W x p k) (bk k x) = gnn (rowB W k) (pp W y p k) (bk k y)
    rw [pp_congr fun i hi => h i (by omega), h k (by omega)]
theorem bk_app {u v : Wd} {i : Nat} (h : i < u.length) : bk i (u ++ v) = bk i u := by
  unfold bk
  rw [List.getD_eq_getElem?_getD, List.getD_eq_getElem?_getD, List.getElem?_append_left h]
theorem bk_end (u : Wd) (b : Bool) : bk u.length (u ++ [b]) = b := by
  unfold bk
  rw [List.getD_eq_getElem?_getD, List.getElem?_append_right (Nat.le_refl _), Nat.sub_self]
  rfl
theorem pp_snoc (W : List Wd) (u : Wd) (b : Bool) (p : Nat) : pp W (u ++ [b]) p (u.length + 1) = gnn (rowB W u.length) (pp W u p u.length) b := by
  show gnn _ (pp W (u ++ [b]) p u.length) (bk u.length (u ++ [b])) = _
  rw [bk_end, pp_congr fun i hi => bk_app hi]
/-- a block: those that share k bits with x stand together, in their order -/
structure Blk (W : List Wd) (x : Wd) (k : Nat) (A C : List Wd) : Prop where
  row : rowW W k = A ++ (W.filter (same k x) ++ C)
  at_ : ∀ p, p ≤ W.length → pp W x p k = A.length + ((W.take p).filter (same k x)).length
theorem Blk.split {W : List Wd} {x : Wd} {k : Nat} (p : Nat) : W.filter (same k x) = (W.take p).filter (same k x) ++ (W.drop p).filter (same k x) := by rw [← List.filter_append, List.take_append_drop]
theorem Blk.le {W : List Wd} {x : Wd} {k : Nat} {A C : List Wd} (B : Blk W x k A C) {p : Nat} (hp : p ≤ W.length) : pp W x p k ≤ W.length := by
  rw [B.at_ p hp, ← rowW_len W k, B.row, Blk.split (W := W) p, List.length_append, List.length_append, List.length_append]
  omega
theorem Blk.cnt {W : List Wd} {x : Wd} {k : Nat} {A C : List Wd} (B : Blk W x k A C) (b : Bool) {p : Nat} (hp : p ≤ W.length) :
    cn b (rowB W k) (pp W x p k) = (A.filter (fun y => bk k y == b)).length + (((W.take p).filter (same k x)).filter (fun y => bk k y == b)).length := by
  rw [cn_cut (by rw [rowB_len]; exact B.le hp)]
  unfold rowB
  rw [B.row, B.at_ p hp, ← List.map_take, List.take_length_add_append, Blk.split (W := W) p, List.append_assoc, List.take_left, List.map_append, List.count_append, count_map, count_map]
theorem blk {W : List Wd} {x : Wd} {w : Nat} (hW : ∀ y ∈ W, y.length = w) : ∀ k, k ≤ x.length → k ≤ w → ∃ A C, Blk W x k A C
  | 0, _, _ => by
    have e : ∀ V : List Wd, V.filter (same 0 x) = V := fun V => List.filter_eq_self.mpr fun _ _ => rfl
    refine ⟨[], [], ?_, fun p hp => ?_⟩
    · rw [e, List.append_nil]
      rfl
    · rw [e, List.length_take]
      show p = 0 + _
      omega
  | k + 1, hk, hkw => by
    obtain ⟨A, C, B⟩ := blk (x := x) hW k (by omega) (by omega)
    have hW' : ∀ y ∈ W, k < y.length := fun y hy => by rw [hW y hy]; omega
    have hx' : k < x.length := by omega
    have tot : cn false (rowB W k) (rowB W k).length = ((rowW W k).filter (fun y => bk k y == false)).length := by
      rw [cn_all]
      unfold rowB
      rw [count_map]
    have both : ∀ b, (rowW W k).filter (fun y => bk k y == b) = A.filter (fun y => bk k y == b) ++ ((W.filter (same k x)).filter (fun y => bk k y == b) ++ C.filter (fun y => bk k y == b)) := fun b => by
      rw [B.row, List.filter_append, List.filter_append]
    have wp : ∀ p, ∀ y ∈ W.take p, k < y.length := fun p y hy => hW' y (List.mem_of_mem_take hy)
    cases hb : bk k x with
    | false =>
      refine ⟨A.filter (fun y => bk k y == false), C.filter (fun y => bk k y == false) ++ (rowW W k).filter (fun y => bk k y == true), ?_, fun p hpl => ?_⟩
      · rw [rowW_succ, both false, filter_same hx' hW' hb, List.append_assoc, List.append_assoc]
      · show gnn (rowB W k) (pp W x p k) (bk k x) = _
        rw [hb]
        show cn false (rowB W k) (pp W x p k) = _
        rw [B.cnt false hpl, filter_same hx' (wp p) hb]
    | true =>
      refine ⟨(rowW W k).filter (fun y => bk k y == false) ++ A.filter (fun y => bk k y == true), C.filter (fun y => bk k y == true), ?_, fun p hpl => ?_⟩
      · rw [rowW_succ, both true, filter_same hx' hW' hb, List.append_assoc]
      · show gnn (rowB W k) (pp W x p k) (bk k x) = _
        rw [hb]
        show cn false (rowB W k) (rowB W k).length + cn true (rowB W k) (pp W x p k) = _
        rw [tot, B.cnt true hpl, filter_same hx' (wp p) hb, List.length_append]
        omega
/-- the words of a span -/
def spanW {α : Type} (W : List α) (f e : Nat) : List α := (W.take e).drop f
theorem take_span {α : Type} {W : List α} {f e : Nat} (h : f ≤ e) : W.take e = W.take f ++ spanW W f e := by
  unfold spanW
  have := List.take_append_drop f (W.take e)
  rw [List.take_take, Nat.min_eq_left h] at this
  exact this.symm
theorem Blk.span {W : List Wd} {x : Wd} {k : Nat} {A C : List Wd} (B : Blk W x k A C) (b : Bool) {f e : Nat} (h : f ≤ e) (he : e ≤ W.length) :
    cn b (rowB W k) (pp W x e k) = cn b (rowB W k) (pp W x f k) + (((spanW W f e).filter (same k x)).filter (fun y => bk k y == b)).length := by
  rw [B.cnt b he, B.cnt b (by omega), take_span h, List.filter_append, List.filter_append, List.length_append]
  omega
/-! ### less, by words -/
theorem vb_same : ∀ (n : Nat) (u v : Wd), u.length = n → v.length = n → vb u = vb v → u = v
  | 0, u, v, hu, hv, _ => by rw [List.eq_nil_of_length_eq_zero hu, List.eq_nil_of_length_eq_zero hv]
  | n + 1, u, v, hu, hv, h => by
    obtain ⟨u, a, rfl⟩ := SrtO.snoc_of (l := u) (by omega)
    obtain ⟨v, b, rfl⟩ := SrtO.snoc_of (l := v) (by omega)
    rw [List.length_append, List.length_singleton] at hu hv
    rw [vb_snoc, vb_snoc] at h
    have ab : a = b := by cases a <;> cases b <;> simp at h ⊢ <;> omega
    subst ab
    rw [vb_same n u v (by omega) (by omega) (by omega)]
def lessC (k : Nat) (v : Wd) (E : List Wd) : Nat := E.countP fun y => decide (vb (y.take k) < vb v)
theorem two_filt {α : Type} (P Q : α → Bool) (E : List α) : ((E.filter P).filter Q).length = E.countP fun y => Q y && P y := by
  rw [List.filter_filter, List.countP_eq_length_filter]
theorem lessC_step {k : Nat} {v : Wd} {b : Bool} (hv : v.length = k) : ∀ {E : List Wd}, (∀ y ∈ E, k < y.length) →
    lessC (k + 1) (v ++ [b]) E = lessC k v E + if b = true then ((E.filter (same k v)).filter (fun y => bk k y == false)).length else 0
  | [], _ => by cases b <;> rfl
  | y :: E, h => by
    have ih := lessC_step (b := b) hv (E := E) fun z hz => h z (List.mem_cons_of_mem _ hz)
    have hy := h y (List.mem_cons_self ..)
    have tl : (y.take k).length = k := by rw [List.length_take]; omega
    have vk : v.take k = v := List.take_of_length_le (by omega)
    have sm : same k v y = true ↔ vb (y.take k) = vb v := by
      unfold same
      rw [vk, beq_iff_eq]
      exact ⟨fun e => by rw [e], fun e => vb_same k _ _ tl hv e⟩
    have key : (if vb (y.take (k + 1)) < vb (v ++ [b]) then 1 else 0) = (if vb (y.take k) < vb v then 1 else 0) + (if b = true then (if bk k y = false ∧ vb (y.take k) = vb v then 1 else 0) else 0) := by
      rw [take_bk hy, vb_snoc, vb_snoc]
      generalize vb (y.take k) = m
      generalize vb v = n
      cases b <;> cases bk k y <;> simp only [Bool.toNat_false, Bool.toNat_true, Bool.false_eq_true, Bool.true_eq_false, if_true, if_false, true_and, false_and, Nat.add_zero] <;> (repeat' split) <;> omega
    have e3 : ((bk k y == false) && same k v y) = true ↔ bk k y = false ∧ vb (y.take k) = vb v := by
      rw [Bool.and_eq_true, beq_iff_eq, sm]
    rw [two_filt] at ih ⊢
    unfold lessC at ih ⊢
    rw [List.countP_cons, List.countP_cons, List.countP_cons, ih]
    simp only [decide_eq_true_eq, e3]
    rw [key]
    cases b
    · simp only [Bool.false_eq_true, if_false]
      omega
    · simp only [if_true]
      omega
/-! ### a text's words -/
def inL (cs : List Nat) (c : Nat) : Bool := decide (c ∈ cs)
def ltr (cs : List Nat) : List Nat := fr (inL cs) 128
def ixc (cs : List Nat) (c : Nat) : Nat := (fr (inL cs) c).length
def wdt (cs : List Nat) : Nat := nd ((ltr cs).length - 1)
def wo (cs : List Nat) (c : Nat) : Wd := bn (ixc cs c) (wdt cs)
def wos (cs : List Nat) : List Wd := cs.map (wo cs)
section
variable {cs : List Nat} {c s : Nat}
theorem inL_iff : inL cs c = true ↔ c ∈ cs := decide_eq_true_iff
theorem ltr_get (h : c ∈ cs) (hc : c < 128) : (ltr cs)[ixc cs c]? = some c := fr_get hc (inL_iff.mpr h)
theorem ltr_mem : c ∈ ltr cs ↔ c < 128 ∧ c ∈ cs := by
  unfold ltr
  rw [fr_mem, inL_iff]
theorem ixc_lt (h : c ∈ cs) (hc : c < 128) : ixc cs c < (ltr cs).length := (List.getElem?_eq_some_iff.mp (ltr_get h hc)).1
theorem ixc_less (h : c ∈ cs) : ixc cs c < ixc cs s ↔ c < s := by
  constructor
  · intro z
    by_cases q : c < s
    · exact q
    · exact absurd (fr_mono (f := inL cs) (show s ≤ c by omega)) (by unfold ixc at z; omega)
  · intro z
    have h1 : (fr (inL cs) (c + 1)).length = (fr (inL cs) c).length + if inL cs c = true then 1 else 0 := fr_len_succ
    rw [if_pos (inL_iff.mpr h)] at h1
    have h2 := fr_mono (f := inL cs) (show c + 1 ≤ s by omega)
    unfold ixc
    omega
theorem ixc_inj (h : c ∈ cs) (h2 : s ∈ cs) (e : ixc cs c = ixc cs s) : c = s := by
  have h1 := ixc_less (s := s) h
  have h3 := ixc_less (s := c) h2
  rw [e] at h1 h3
  have : ¬ ixc cs s < ixc cs s := Nat.lt_irrefl _
  omega
theorem wo_len : (wo cs c).length = wdt cs := bn_len _ _
theorem ix_small {n : Nat} (h : n < (ltr cs).length) : n < 2 ^ wdt cs := by
  have : n ≤ (ltr cs).length - 1 := by omega
  exact Nat.lt_of_le_of_lt this ((nd_le _ _).mp (Nat.le_refl _))
theorem wo_vb (h : c ∈ cs) (hc : c < 128) : vb (wo cs c) = ixc cs c := bn_vb_lt (ix_small (ixc_lt h hc))
theorem wo_inj (h : c ∈ cs) (hc : c < 128) (h2 : s ∈ cs) (hs : s < 128) : wo cs c = wo cs s ↔ c = s := by
  constructor
  · intro e
    have := congrArg vb e
    rw [wo_vb h hc, wo_vb h2 hs] at this
    exact ixc_inj h h2 this
  · exact fun e => by rw [e]
theorem wos_len : ∀ y ∈ wos cs, y.length = wdt cs := fun y hy => by
  obtain ⟨c, _, rfl⟩ := List.mem_map.mp hy
  exact wo_len
end
end Tw

set_option maxHeartbeats 4000000
namespace Tw
open PySem PySem.Spec PyProof.Rows L2 LamX
/-! ### refusals told one behind the other -/
structure BN (T : List (Addr × Str)) (H0 : Hp) (z : Str) (p : Addr) (i : Nat) (H : Hp) : Prop where
  x : Xt T H0 H
  n : Nw H0 p
  e : H p = some (.lst (List.replicate i (.str z)))
section
variable {T : List (Addr × Str)} {K : PySem.W.Frag} {H0 H H' : Hp} {p p2 : Addr} {z : Str} {i : Nat}
theorem BN.xt (s : BN T H0 z p i H) (x : Xt T H H') : BN T H0 z p i H' := ⟨s.x.trans x, s.n, x.lst s.e⟩
theorem BN.app (s : BN T H0 z p i H) (h : upd H p (.lst (List.replicate i (.str z) ++ [.str z])) = H') : BN T H0 z p (i + 1) H' := by
  subst h
  exact ⟨s.x.mut s.n s.e, s.n, by rw [upd_same, List.replicate_succ']⟩
theorem BN.new (x : Xt T H0 H) (n : H p = none) (h : upd H p (.lst [.str z]) = H') : BN T H0 z p 1 H' :=
  ⟨x.trans (newE h n), x.nw (.of n), atE h⟩
theorem BN.cat (s : BN T H0 z p i H) (n : H p2 = none) (h : upd H p2 (.lst (List.replicate i (.str z) ++ [.str z])) = H') : BN T H0 z p2 (i + 1) H' :=
  ⟨s.x.trans (newE h n), s.x.nw (.of n), by rw [atE h, List.replicate_succ']⟩
theorem rep_lt (h : i ≤ 1000) : (List.replicate i (V.str z)).length < sizeLine := by
  rw [List.length_replicate]
  exact Nat.lt_of_le_of_lt h (by decide)
theorem rep_flatV (n : Nat) (v : V) : (List.replicate n [v]).flatten = List.replicate n v := by
  induction n with
  | zero => rfl
  | succ n ih => rw [List.replicate_succ, List.flatten_cons, ih, List.replicate_succ]; rfl
theorem dp_rep {a : Addr} {n : Nat} (e : H a = some (.lst (List.replicate n (.str z)))) : Dp K H (.ref a) (.list ((List.replicate n z).map .str)) := dp_strs (SqL.of (by rw [e, List.map_replicate]))
theorem sh_rep {n : Nat} (h : PyData.strOk z = true) : Sh 64 (.list ((List.replicate n z).map .str)) := sh_strs fun x hx => by rw [(List.mem_replicate.mp hx).2]; exact h
theorem gv {j : Nat} {v x : V} {σ : L2.St} {D : L2.St → Hp → Prop} (e : x = v) (h : gName j v σ H D) : gName j x σ H D := by
  subst e
  exact h
end
end Tw

set_option maxHeartbeats 4000000
namespace Tw
open PySem PySem.Spec PyProof.Rows L2 LamX
/-! ### zip(list, text) -/
def ItzS (K : PySem.W.Frag) (a : Addr) (x : Str) : It :=
  ⟨fun i H => ∃ (xs : List V) (v : V), SqL K H a xs ∧ xs[i]? = some v ∧ i < x.cps.size,
    fun i H y H' => ∃ (T : Addr) (v : V) (c : Nat), y = .ref T ∧ H T = none ∧ H' = upd H T (.tup [v, .str ⟨#[c]⟩]) ∧ x.cps[i]? = some c ∧ ∀ xs, SqL K H a xs → xs[i]? = some v,
    fun i H => ∃ xs : List V, SqL K H a xs ∧ i ≤ xs.length ∧ i ≤ x.cps.size ∧ (i = xs.length ∨ i = x.cps.size)⟩
theorem sep {a i : Nat} (h : a < i) : ZipSep2 (i + 4) (i + 2) (i + 3) i (i + 1) [i, a] [i + 1] := by
  refine ⟨?_, ?_, ?_, ?_, ?_, ?_, ?_, ?_, ?_, ?_, ?_, ?_, ?_⟩
  all_goals first
    | (show (_ : Nat) ≠ _; omega)
    | (exact List.mem_cons_self ..)
    | (intro z; rcases List.mem_cons.mp z with z | z
       · have z : (_ : Nat) = _ := z
         omega
       · rcases List.mem_cons.mp z with z | z
         · have z : (_ : Nat) = _ := z
           omega
         · cases z)
    | (intro z; have z : (_ : Nat) = _ := List.mem_singleton.mp z; omega)
theorem turn_zipS {P : Program} {w : World} {K : PySem.W.Frag} {elts : List Expr} {kk : Nat} {tpos : Pos} {a z TI TO i1 i2 : Addr} (x : Str) (t : Tok) (D : ZipSep2 z TI TO i1 i2 [i1, a] [i2]) :
    Turn P w K (.Tuple elts kk tpos) (ItzS K a x) [z, TI, TO, i1, i2] z (fun i h => IsZip h z TI TO .none ∧ IsTupOf2 h TI (.ref i1) (.ref i2) ∧ (∃ u v, IsTupOf2 h TO u v) ∧ h.IsListIter i1 a i ∧ h.IsStrIter i2 (strIterType x) x t i) where
  mem := by simp
  obj := fun i h st c hc => by
    obtain ⟨s1, s2, ⟨u, v, s3⟩, ⟨o1, e1, _, d1⟩, ⟨o2, e2, _, d2⟩⟩ := st
    have hc : c = z ∨ c = TI ∨ c = TO ∨ c = i1 ∨ c = i2 := by simpa using hc
    rcases hc with q | q | q | q | q <;> rw [q]
    · exact ⟨_, s1, fun y r => nomatch r⟩
    · exact ⟨_, s2, fun y r => nomatch r⟩
    · exact ⟨_, s3, fun y r => nomatch r⟩
    · exact ⟨o1, e1, fun y r => by rw [d1] at r; cases r⟩
    · exact ⟨o2, e2, fun y r => by rw [d2] at r; cases r⟩
  keep := fun i h h' st k => by
    obtain ⟨s1, s2, ⟨u, v, s3⟩, s4, ⟨o, ho, r⟩⟩ := st
    exact ⟨k z (by simp) _ s1, k TI (by simp) _ s2, ⟨u, v, k TO (by simp) _ s3⟩, s4.at fun o q => k i1 (by simp) o q, ⟨o, k i2 (by simp) o ho, r⟩⟩
  item := by
    intro X hP hw hK hc i pins s σ H E I hf st hg
    subst hP hw hK
    obtain ⟨s1, s2, ⟨u0, v0, s3⟩, s4, s5⟩ := st
    obtain ⟨xs, v, hq, hv, hi⟩ := hg
    obtain ⟨its, rv, pl, _⟩ := I.list hq
    obtain ⟨y, hy, ry⟩ := rv.get hv
    have zl : z < s.heap.objs.size := Heap.lt_size s1
    have quiet : X.A.in1.handled = none := I.ok.hd hc
    have ne : a ≠ i1 := fun e => by
      have m : i1 ∈ [i2] ∨ True := .inr trivial
      obtain ⟨o, ho, hcl, _⟩ := pl.isList
      obtain ⟨o1, e1, c1, _⟩ := s4
      rw [e] at ho
      rw [ho] at e1
      cases e1
      rw [hcl] at c1
      exact absurd (Value.type.inj c1) (by decide)
    have D1 := Draws.list (prog := X.prog) (w := X.w) (A := X.A.in1) quiet i1 a ne its.toArray
    have D2 := draws_text (P := X.prog) (w := X.w) (A := X.A.in1) quiet i2 x t
    have lv : i < its.toArray.size := by
      rw [List.size_toArray]
      exact (List.getElem?_eq_some_iff.mp hy).1
    refine wpAny_pyNext_zipD2_item D D1 D2 s1 s2 s3 ⟨s4, pl.isList⟩ s5 lv hi fun x1 x2 hp tk p1 p2 z1 t1 n1 n2 new sz kp => ?_
    obtain ⟨c, tu, hcx, rfl⟩ := p2
    have e1 : x1 = y := by
      have p1 : its.toArray[i]? = some x1 := p1
      rw [List.getElem?_toArray, hy] at p1
      exact (Option.some.inj p1).symm
    subst e1
    refine ⟨_, rfl, wpAny_letOwnedTupleGo_zip (s := { s with heap := hp, toks := tk }) z1 fun hp2 z2 same => ?_⟩
    have fresh : hp2.get? s.heap.objs.size = some { cls := .type "tuple", data := .seq #[x1, .str ⟨#[c]⟩ tu] } := (same.2 _ (Nat.ne_of_gt zl)).trans new
    have ok : ObjOk X.prog X.w (upd H s.heap.objs.size (.tup [v, .str ⟨#[c]⟩])) hp2 s.heap.objs.size (.tup [v, .str ⟨#[c]⟩]) :=
      ⟨by show 2 ≤ sizeLine; decide, [x1, .str ⟨#[c]⟩ tu], .cons ry (.cons ⟨_, rfl⟩ .nil), ⟨_, fresh, rfl, _, rfl⟩⟩
    have J : Inv X pins σ (upd H s.heap.objs.size (.tup [v, .str ⟨#[c]⟩])) { s with heap := hp2, toks := tk } :=
      I.turnedNew (ch := [z, TI, TO, i1, i2]) (fun b o hb q => (same.2 b (fun e => hb (by simp [e]))).trans (kp b o (fun e => hb (by simp [e])) (fun e => hb (by simp [e])) (fun e => hb (by simp [e])) (fun e => hb (by simp [e])) q)) hf (Nat.le_refl _) ok
    refine ⟨.ref s.heap.objs.size, _, J, rfl, ⟨_, v, c, rfl, I.hok.fresh (Nat.le_refl _), rfl, hcx, fun l hl => by rw [I.list_inj hl hq]; exact hv⟩, ⟨z2, ?_, ⟨x1, .str ⟨#[c]⟩ tu, ?_⟩, ?_, ?_⟩, fun b hb => ?_⟩
    · exact (same.2 _ D.TIz).trans (kp _ _ D.TIz D.TITO D.TIi1 D.TIi2 s2)
    · exact (same.2 _ D.TOz).trans t1
    · exact n1.1.at fun o q => (same.2 _ (Ne.symm D.zi1)).trans q
    · obtain ⟨o, q, r⟩ := n2
      exact ⟨o, (same.2 _ (Ne.symm D.zi2)).trans q, r⟩
    · have lt : b < s.heap.objs.size := by
        have hb : b = z ∨ b = TI ∨ b = TO ∨ b = i1 ∨ b = i2 := by simpa using hb
        rcases hb with q | q | q | q | q <;> rw [q]
        · exact zl
        · exact Heap.lt_size s2
        · exact Heap.lt_size s3
        · obtain ⟨_, e1, _⟩ := s4
          exact Heap.lt_size e1
        · obtain ⟨_, e2, _⟩ := s5
          exact Heap.lt_size e2
      rw [upd_ne (Nat.ne_of_lt lt)]
      exact (hf b hb).1
  done := by
    intro X hP hw hK hc i pins s σ H E I hf st hg
    subst hP hw hK
    obtain ⟨s1, s2, ⟨u0, v0, s3⟩, s4, s5⟩ := st
    obtain ⟨xs, hq, h1, h2, h3⟩ := hg
    obtain ⟨its, rv, pl, _⟩ := I.list hq
    have lv := rv.length
    have quiet : X.A.in1.handled = none := I.ok.hd hc
    have ne : a ≠ i1 := fun e => by
      obtain ⟨o, ho, hcl, _⟩ := pl.isList
      obtain ⟨o1, e1, c1, _⟩ := s4
      rw [e] at ho
      rw [ho] at e1
      cases e1
      rw [hcl] at c1
      exact absurd (Value.type.inj c1) (by decide)
    have D1 := Draws.list (prog := X.prog) (w := X.w) (A := X.A.in1) quiet i1 a ne its.toArray
    have D2 := draws_text (P := X.prog) (w := X.w) (A := X.A.in1) quiet i2 x t
    have sz : its.toArray.size = xs.length := by rw [List.size_toArray]; omega
    exact wpAny_pyNext_zipD2_end D D1 D2 s1 s2 s3 ⟨s4, pl.isList⟩ s5 (by rw [sz]; exact h1) h2 (by rw [sz]; exact h3) fun hp tk kp => ⟨rfl, I.turnedL (t' := tk) (ch := [z, TI, TO, i1, i2]) (fun c o hb q =>
      kp c o (fun e => hb (by simp [e])) (fun e => hb (by simp [e])) (fun e => hb (by simp [e])) (fun e => hb (by simp [e])) q) hf⟩
  self := fun A i s Q E st h => wpAny_pyIter_zip st.1 h
def iZipS (K : PySem.W.Frag) (ta : TA) : TI := fun σ H R => ta σ H fun vs H1 => ∃ (a : Addr) (x : Str) (xs : List V), vs = [.ref a, .str x] ∧ SqL K H1 a xs ∧ R (ItzS K a x) H1
theorem pi_zipSK {X : Cx} {K : PySem.W.Frag} (eK : X.K = K) {e e2 : Expr} {ta : TA} {p pos tpos : Pos} {elts : List Expr} {kk : Nat} (hg : Gl X "zip") (hm : X.mg "zip" = none) (ha : PA X [e, e2] ta)
    (hs : starEach [e, e2] X.env = (false, eval e X.env) :: starEach [e2] X.env) (hpl : (backTo pos (starEach [e2] X.env)).any (·.1) = false) :
    PI X (.Tuple elts kk tpos) (.Call (.Name "zip" p) [e, e2] [] pos) (iZipS K ta) := by
  subst eK
  refine ⟨fun pins s σ H R I h => Call_ (ld_blt I hg hm PyProof.Rows.boot_zip (PyProof.Rows.callWith_type1 (thn (ha.run pos pins s σ H _ I h) fun us s1 ⟨vs, H1, I1, r1, q1⟩ => ?_) hs hpl))⟩
  obtain ⟨a, x, xs, rfl, hq, q⟩ := q1
  obtain ⟨u1, u2, rfl, r1, r2⟩ := vals2 r1
  cases r1
  obtain ⟨t, rfl⟩ := r2
  obtain ⟨its, rv, pl, _⟩ := I1.list hq
  refine zip_begins2 (begins_list a its.toArray) (begins_text x t) pl.isList trivial fun hp s1' s2 s3 s4 s5 sz kp => wpAny_pyIter_zip s1' ?_
  have J : Inv X pins σ H1 { s1 with heap := hp } := I1.kept (t' := s1.toks) kp
  refine ⟨s1.heap.objs.size + 4, [s1.heap.objs.size + 4, s1.heap.objs.size + 2, s1.heap.objs.size + 3, s1.heap.objs.size, s1.heap.objs.size + 1], _, _, H1, rfl, J, turn_zipS x t (sep pl.lt), ⟨s1', s2, ⟨_, _, s3⟩, ⟨_, s4, rfl, rfl⟩, ⟨_, s5, rfl, rfl⟩⟩, fun c hc => ?_, q⟩
  have le : s1.heap.objs.size ≤ c := by
    have hc : c = s1.heap.objs.size + 4 ∨ c = s1.heap.objs.size + 2 ∨ c = s1.heap.objs.size + 3 ∨ c = s1.heap.objs.size ∨ c = s1.heap.objs.size + 1 := by simpa using hc
    rcases hc with z | z | z | z | z <;> rw [z] <;> first | exact Nat.le_add_right _ _ | exact Nat.le_refl _
  exact I1.fpOk le (I1.hok.fresh le)
theorem w_zipS {K : PySem.W.Frag} {a : Addr} {xs : List V} {l : List Nat} (hl : l.length = xs.length) :
    Walk (ItzS K a (S l)) xs.length (fun H => SqL K H a xs) (fun i H y H' => ∃ (T : Addr) (v : V) (c : Nat), y = .ref T ∧ H T = none ∧ H' = upd H T (.tup [v, .str (S [c])]) ∧ l[i]? = some c ∧ xs[i]? = some v) := by
  have lz : (S l).cps.size = l.length := S_len l
  refine ⟨fun i H hi q => ⟨xs, xs[i], q, List.getElem?_eq_getElem hi, by rw [lz, hl]; exact hi⟩, fun H q => ⟨xs, q, Nat.le_refl _, by rw [lz, hl]; exact Nat.le_refl _, .inl rfl⟩, fun i H y H' hi q h => ?_⟩
  obtain ⟨T, v, c, h1, h2, h3, h4, h5⟩ := h
  exact ⟨T, v, c, h1, h2, h3, by simpa [S] using h4, h5 xs q⟩
end Tw

set_option maxHeartbeats 4000000
namespace Tw
open PySem PySem.Spec PyProof.Rows L2 LamX PySem.Froz
/-! ### sorted(set(text)): a text's signs, each once, rising -/
/-- a member more, if new -/
def addM (l : List Str) (k : Str) : List Str := if k ∈ l then l else k :: l
def memM (cs : List Nat) : List Str := cs.foldl (fun l c => addM l (sing c)) []
theorem addM_mem {l : List Str} {k x : Str} : x ∈ addM l k ↔ x ∈ l ∨ x = k := by
  unfold addM
  split
  · next h => exact ⟨.inl, fun z => z.elim id fun e => e ▸ h⟩
  · rw [List.mem_cons]
    exact Or.comm
theorem addM_nd {l : List Str} {k : Str} (h : l.Nodup) : (addM l k).Nodup := by
  unfold addM
  split
  · exact h
  · next hk => exact List.nodup_cons.mpr ⟨hk, h⟩
theorem addM_len (l : List Str) (k : Str) : (addM l k).length ≤ l.length + 1 := by
  unfold addM
  split
  · exact Nat.le_succ _
  · exact Nat.le_refl _
theorem memM_snoc (cs : List Nat) (c : Nat) : memM (cs ++ [c]) = addM (memM cs) (sing c) := by
  unfold memM
  rw [List.foldl_append]
  rfl
theorem memM_all : ∀ (n : Nat) (cs : List Nat), cs.length = n → (memM cs).Nodup ∧ (memM cs).length ≤ n ∧ ∀ x, x ∈ memM cs ↔ ∃ c ∈ cs, x = sing c
  | 0, cs, h => by
    obtain rfl := List.eq_nil_of_length_eq_zero h
    exact ⟨.nil, Nat.le_refl _, fun x => ⟨fun z => (by cases z), fun ⟨c, z, _⟩ => (by cases z)⟩⟩
  | n + 1, cs, h => by
    obtain ⟨ds, c, rfl⟩ := SrtO.snoc_of (l := cs) (by omega)
    rw [List.length_append, List.length_singleton] at h
    obtain ⟨h1, h2, h3⟩ := memM_all n ds (by omega)
    rw [memM_snoc]
    refine ⟨addM_nd h1, Nat.le_trans (addM_len _ _) (by omega), fun x => ?_⟩
    rw [addM_mem, h3]
    constructor
    · rintro (⟨d, hd, e⟩ | e)
      · exact ⟨d, List.mem_append_left _ hd, e⟩
      · exact ⟨c, List.mem_append_right _ (List.mem_singleton.mpr rfl), e⟩
    · rintro ⟨d, hd, e⟩
      rcases List.mem_append.mp hd with hd | hd
      · exact .inl ⟨d, hd, e⟩
      · exact .inr (by rw [e, List.mem_singleton.mp hd])
section
variable {P : Program} {w : World} {A : Around} {E : Value → Shared → Prop} {st : Shared}
/-- the table rises and can be walked -/
def Walkable (w : World) (D : SD) : Prop := Ris D.2.2.place.toList ∧ (w.params.followText "set-order" = true ∨ D.2.2.led = true)
theorem tail_walk {ep : Nat} {es : Array (Int × Value)} {t : SetTable} {b : Bool} (h : Walkable w (es, ep, t)) : Walkable w (tailTx ep es t b) := by
  unfold tailTx
  split
  · exact ⟨relayAll_ris t es _, h.2.imp id fun z => (relayAll_led t es _).trans z⟩
  · exact h
theorem add_walk {D : SD} {hv : Int} {v : Value} (h : Walkable w D) : Walkable w (addTx hv v D) := by
  obtain ⟨es, ep, t⟩ := D
  refine tail_walk ?_
  have r := layNew_ris t es hv v h.1
  have l := layNew_led t es hv v
  have l2 : w.params.followText "set-order" = true ∨ (layNew t es hv v).2.1.led = true := h.2.imp id fun z => l.trans z
  dsimp only
  split
  · exact ⟨r, l2⟩
  · exact ⟨r, l2⟩
/-- the texts l stand in the set at a -/
def HasT (P : Program) (w : World) (hp : Heap) (a : Addr) (l : List Str) : Prop := ∃ D, hp.get? a = some (sObj "set" D) ∧ TxOk P w D l ∧ Walkable w D
theorem HasT.keep {hp hp' : Heap} {a : Addr} {l : List Str} (h : HasT P w hp a l) (k : ∀ o, hp.get? a = some o → hp'.get? a = some o) : HasT P w hp' a l := by
  obtain ⟨D, h1, h2⟩ := h
  exact ⟨D, k _ h1, h2⟩
theorem there {a : Addr} {D : SD} {l : List Str} {k : Str} {u : Tok} {Q : Bool → Shared → Prop} (ho : st.heap.get? a = some (sObj "set" D)) (F : TxOk P w D l) (hk : k ∈ l) (hb : l.length < scanBound) (q : Q false st) :
    wpAny (model P w) A (setAddHashed a (.str k u) (hashStr w k)) Q E st := by
  obtain ⟨es, ep, t⟩ := D
  have hel : ElemsOf (strKind P w) es.toList := F.el
  have hsz : es.size = l.length := F.sz
  have hkey := is_str (P := P) (w := w) k u
  unfold setAddHashed setAddHashedIn
  refine wpAny_holding (wpAny_bind (wpAny_setState_of ho (show (sObj "set" (es, ep, t)).data = .set es ep t from rfl) F.fit ?_))
  dsimp only
  rw [byScan_of (x := Value.str k u) rfl (by rw [hsz]; exact hb) hel]
  simp only [↓reduceIte]
  unfold setAddByScan
  refine wpAny_bind (wpAny_bind (wpAny_rule (wpAny_bind (wpAny_setScan_of (knd := strKind P w) (k := k) hkey ho (show (sObj "set" (es, ep, t)).data = .set es ep t from rfl) F.fit hel ?_))))
  cases hf : List.findIdx? (fun e => (strKind P w).is k e.2) es.toList with
  | some j => exact wpAny_pure (wpAny_pure q)
  | none =>
    obtain ⟨e, he, z⟩ := (F.mem k).mp hk
    have z2 := List.findIdx?_eq_none_iff.mp hf e he
    rw [z] at z2
    cases z2
theorem put1 {a : Addr} {l : List Str} {k : Str} {u : Tok} {Q : Bool → Shared → Prop} (h : HasT P w st.heap a l) (hb : l.length + 1 < scanBound)
    (q : ∀ b hp, Heap.SameBut a st.heap hp → HasT P w hp a (addM l k) → Q b { st with heap := hp }) : wpAny (model P w) A (setAddHashed a (.str k u) (hashStr w k)) Q E st := by
  obtain ⟨D, ho, F, W⟩ := h
  by_cases hk : k ∈ l
  · refine there ho F hk (by omega) ?_
    have e : addM l k = l := if_pos hk
    exact q false st.heap (Heap.SameBut.refl a st.heap) (by rw [e]; exact ⟨D, ho, F, W⟩)
  · refine add_x ho F hk hb ?_
    have e : addM l k = k :: l := if_neg hk
    exact q true _ (Heap.SameBut.update st.heap a _) (by rw [e]; exact ⟨_, get_upd _ ho rfl, add_ok u F, add_walk W⟩)
end
section
variable {P : Program} {w : World} {A : Around} {R : Result → Shared → Prop} {it : Addr} {fp wr : List Addr} {G : Array GenState → Array GenState → Prop} {n : Nat} {St : Nat → Shared → Prop} {x : Str}
/-- the loop: sign by sign -/
theorem upLoop (W : WalksS P w A.in1 it fp wr G n (SignAt x) St) (hn : n = x.cps.size) (a : Addr) (off : a ∉ fp) (hb : n + 1 < scanBound) : ∀ (m i : Nat) (st : Shared), n - i = m → i ≤ n → St i st → HasT P w st.heap a (memM (x.cps.toList.take i)) →
    (∀ s2, Moved (a :: wr) G st s2 → HasT P w s2.heap a (memM x.cps.toList) → R (.ok (.ret .none)) s2) → codeAny (model P w) A (.builtin "set.update.loop" ⟨[.ref a, .ref it], []⟩) R st := by
  have offw : a ∉ wr := fun z => off (W.sub _ z)
  have wider : ∀ b ∈ wr, b ∈ a :: wr := fun b z => .tail _ z
  have lenx : x.cps.toList.length = n := by rw [hn, Array.length_toList]
  intro m
  induction m with
  | zero =>
    intro i st e1 e2 now has fin
    obtain rfl : i = n := by omega
    rw [List.take_of_length_le (Nat.le_of_eq lenx)] at has
    refine codeAny_builtin PyProof.Rows.F.entry_set_update_loop ?_
    rw [Around.under_plainId PyProof.Rows.F.plain_set_update_loop _]
    refine wpAny_bind (m := pyNext (.ref it)) (W.done st _ _ now fun s2 mv => wpAny_pure ?_)
    exact fin s2 (mv.mono wider) (has.keep fun o z => mv.heap a o offw z)
  | succ m ih =>
    intro i st e1 e2 now has fin
    have lt : i < n := by omega
    refine codeAny_builtin PyProof.Rows.F.entry_set_update_loop ?_
    rw [Around.under_plainId PyProof.Rows.F.plain_set_update_loop _]
    refine wpAny_bind (m := pyNext (.ref it)) (W.item i st _ _ lt now fun v s2 hv now2 mv => ?_)
    obtain ⟨c, u, hc, rfl⟩ := hv
    have has := has.keep fun o z => mv.heap a o offw z
    obtain ⟨_, lz, _⟩ := memM_all _ (x.cps.toList.take i) rfl
    rw [List.length_take] at lz
    refine wpAny_bind (m := holding [Value.str ⟨#[c]⟩ u] (setAdd a (.str ⟨#[c]⟩ u))) (wpAny_holding ?_)
    unfold setAdd
    refine wpAny_holding (wpAny_bind ((strKind P w).pyHash (k := sing c) (is_str _ _) ?_))
    refine put1 (st := { s2 with toks := s2.toks + 1 }) has (by omega) fun b hp same has3 => ?_
    have e3 : addM (memM (x.cps.toList.take i)) ⟨#[c]⟩ = memM (x.cps.toList.take (i + 1)) := by
      rw [List.take_add_one, Array.getElem?_toList, hc]
      exact (memM_snoc _ c).symm
    rw [e3] at has3
    refine wpAny_pure ⟨plainId_quiet PyProof.Rows.F.plain_set_update_loop _, ih (i + 1) _ (by omega) lt (W.frame _ s2 _ _ now2 (Nat.le_succ _) fun b2 hb2 o z => ?_) has3 fun s3 mv3 has4 => ?_⟩
    · rw [same.2 b2 fun y => off (y ▸ hb2)]
      exact z
    · refine fin s3 (Moved.trans W.gtrans ((mv.mono wider).then_heap (Nat.le_succ _) fun b2 o hb2 z => ?_) mv3) has4
      rw [same.2 b2 fun y => hb2 (y ▸ List.mem_cons_self)]
      exact z
end
theorem not_set : isSubtype (.type "str") (.type "set") = pure false := by
  rw [isSubtype_type]
  kernel_rfl
theorem not_frozen : isSubtype (.type "str") (.type "frozenset") = pure false := by
  rw [isSubtype_type]
  kernel_rfl
section
variable {P : Program} {w : World} {A : Around} {E : Value → Shared → Prop} {st : Shared}
abbrev bare (w : World) : Obj := { cls := .type "set", dict := none, data := .set #[] 0 (.fresh 0 0 (!w.params.followText "set-order")) }
theorem bare_has (hp : Heap) : HasT P w (hp.push (bare w)) hp.objs.size [] := by
  refine ⟨(#[], 0, .fresh 0 0 (!w.params.followText "set-order")), Heap.get?_push_size (o := bare w) hp rfl, TxOk.nil rfl, List.Pairwise.nil, ?_⟩
  show _ ∨ (!w.params.followText "set-order") = true
  cases w.params.followText "set-order"
  · exact .inr rfl
  · exact .inl rfl
theorem newSet (v : Value) {Q : Value → Shared → Prop} (q : Q (.ref st.heap.objs.size) { st with heap := st.heap.push (bare w) }) :
    codeAny (model P w) A (.call (.builtin "set.__new__") ⟨[.type "set", v], []⟩) (wants Q E) st := by
  refine codeAny_of_tree (show wpAny _ A.in1 (do checkBuiltinCall "set.__new__" ⟨[.type "set", v], []⟩; again (.builtin "set.__new__" ⟨[.type "set", v], []⟩)) _ _ st from ?_)
  refine wpAny_bind (wpAny_of_eq (PySem.F.newCall_set_1 v) (wpAny_pure ⟨plainId_quiet PySem.F.plain_set_new _, codeAny_builtin PySem.F.entry_set_new ?_⟩))
  rw [Around.under_plainId PySem.F.plain_set_new _]
  unfold Builtin.«set.__new__» Builtin.Frozenset.newClass
  have self := sub_set_self
  obtain ⟨hp, g, d, tk, os⟩ := st
  dsimp only
  wp_walk
  refine wpAny_askSetting (wpAny_pure ?_)
  dsimp only
  simp only [newObj]
  exact wpAny_bind (wpAny_alloc (wpAny_pure (wpAny_pure q)))
set_option maxHeartbeats 8000000 in
/-- set(text) -/
theorem make {x : Str} {u : Tok} {Q : Value → Shared → Prop} (hh : A.handled = none) (hb : x.cps.size + 1 < scanBound)
    (q : ∀ (hp : Heap) (tk : Nat), HasT P w hp st.heap.objs.size (memM x.cps.toList) → (∀ b o, b < st.heap.objs.size → st.heap.get? b = some o → hp.get? b = some o) → Q (.ref st.heap.objs.size) { st with heap := hp, toks := tk }) :
    wpAny (model P w) A (call (.type "set") [.str x u]) Q E st := by
  obtain ⟨c, tl, hmro⟩ := PySem.F.called_set.mro
  have hmade := PySem.F.called_set.made
  have hsub := PySem.F.called_set.sub
  refine wpAny_call (codeAny_of_tree (show wpAny _ _ (callAny (.type "set") _) _ _ _ from wpAny_pure ⟨Code.quiet_builtin _ (by decide +kernel), codeAny_builtin PySem.F.entry_type_call ?_⟩))
  rw [Around.under_plain (weight_type_call_type "set" [.str x u] []) rfl]
  have k1 := PySem.F.called_set.notType
  have k2 := PySem.F.called_set.canCreate
  have k3 := PySem.F.typeCall_set_1 (.str x u)
  repeat (any_goals (first | assumption | wp_step))
  refine codeAny_mono (newSet (.str x u) (E := E) (Q := fun v s2 => v = .ref st.heap.objs.size ∧ s2 = { st with heap := st.heap.push (bare w) }) ⟨rfl, rfl⟩) fun r s2 hr => ?_
  cases r with
  | error e => exact hr
  | ok fl =>
    cases fl with
    | ret v =>
      obtain ⟨rfl, rfl⟩ := hr
      have at0 : (st.heap.push (bare w)).get? st.heap.objs.size = some (bare w) := Heap.get?_push_size _ rfl
      have typ : Shared.TypeIs { st with heap := st.heap.push (bare w) } (.ref st.heap.objs.size) "set" := ⟨_, at0, rfl⟩
      have k4 := PySem.F.called_set.init.lookup
      have k5 := PySem.F.called_set.init.bind (.ref st.heap.objs.size)
      repeat (any_goals (first | assumption | wp_step))
      refine codeAny_mono (codeAny_call_builtin (R := wants (fun v s3 => v = .none ∧ ∃ hp tk, s3 = { st with heap := hp, toks := tk } ∧ HasT P w hp st.heap.objs.size (memM x.cps.toList) ∧
          (∀ b o, b < st.heap.objs.size → st.heap.get? b = some o → hp.get? b = some o)) E) PySem.F.called_set.init.plain PySem.F.entry_set_init (check_set_init_1 typ ?_)) fun r3 s3 hr3 => ?_
      · have n1 := not_set
        have n2 := not_frozen
        have n3 : (Value.type "str" == Value.type "dict") = false := by decide
        unfold Builtin.«set.__init__» noKeywords Builtin.Frozenset.updateFrom
        generalize hPI : pyIter = PI
        wp_walk
        subst hPI
        refine wpAny_pyIter_str fun o St W now => wpAny_bind (wpAny_runValue ?_)
        have quiet : A.in1.in1.in1.handled = none := by simp [hh]
        have off : st.heap.objs.size ∉ [(st.heap.push (bare w)).objs.size] := fun z => by
          have z := List.mem_singleton.mp z
          rw [Heap.size_push] at z
          omega
        refine upLoop ((W _ quiet).toS) rfl st.heap.objs.size off hb (x.cps.size - 0) 0 _ (by omega) (Nat.zero_le _) now ((bare_has st.heap).keep fun o z => Heap.get?_push_of_some _ z) fun s4 mv has => ?_
        obtain ⟨hp, g, d, tk, os⟩ := s4
        have eg : g = st.gens := mv.gens
        have ed : d = st.drawn := mv.drawn
        have eo : os = st.os := mv.os
        subst eg ed eo
        refine wpAny_pure (wpAny_pure ⟨rfl, hp, tk, rfl, has, fun b o hb2 z => mv.heap b o (fun y => ?_) (Heap.get?_push_of_some _ (Heap.get?_push_of_some _ z))⟩)
        rcases List.mem_cons.mp y with y | y
        · exact absurd y (Nat.ne_of_lt hb2)
        · have y := List.mem_singleton.mp y
          rw [Heap.size_push] at y
          exact absurd y (Nat.ne_of_lt (Nat.lt_succ_of_lt hb2))
      · cases r3 with
        | error e => exact hr3
        | ok f3 =>
          cases f3 with
          | ret v =>
            obtain ⟨rfl, hp, tk, rfl, has, keep⟩ := hr3
            repeat (any_goals (first | assumption | wp_step))
            exact q _ _ has keep
          | _ => exact hr3.elim
    | _ => exact hr.elim
end
theorem same_all {α : Type} [DecidableEq α] : ∀ {l m : List α}, l.Nodup → (∀ x ∈ l, x ∈ m) → m.length = l.length → l.Perm m
  | [], m, _, _, h => by rw [List.eq_nil_of_length_eq_zero h]
  | k :: r, m, nd, sub, h => by
    obtain ⟨n1, n2⟩ := List.nodup_cons.mp nd
    have hk := sub k (List.mem_cons_self ..)
    have p := List.perm_cons_erase hk
    refine (List.Perm.cons k (same_all n2 (fun x hx => ?_) ?_)).trans p.symm
    · exact (List.mem_erase_of_ne fun z => n1 (by rw [← z]; exact hx)).mpr (sub x (List.mem_cons_of_mem _ hx))
    · rw [List.length_erase_of_mem hk, h]
      rfl
section
variable {P : Program} {w : World} {A : Around} {E : Value → Shared → Prop} {st : Shared}
/-- sorted(set), the set's members texts -/
theorem sortSet {a : Addr} {l : List Str} {Q : Value → Shared → Prop} (has : HasT P w st.heap a l) (nd : l.Nodup) (hh : A.handled = none) (hb : l.length < scanBound)
    (q : ∀ s2 p (out : Array Value) (c : Nat) (ys : List Str), (∀ b o, st.heap.get? b = some o → s2.heap.get? b = some o) → s2.gens = st.gens → s2.os = st.os → st.heap.objs.size ≤ p →
      s2.heap.get? p = some (seqObj "list" out c) → StrsAre out.toList ys → sortedS ys = true → ys.Perm l → Q (.ref p) s2) :
    wpAny (model P w) A (call (.builtin "sorted") [.ref a]) Q E st := by
  obtain ⟨⟨es, ep, t⟩, ho, F, W⟩ := has
  have hsz : es.size = l.length := F.sz
  refine Calls.call_function_entry PyProof.Rows.kind_sorted PyProof.Rows.plain_sorted PyProof.Rows.entry_sorted (PyProof.Rows.args_sorted1 _) ?_
  unfold Builtin.«sorted»
  refine wpAny_bind (m := checkCount "sorted" 1 1 _) (wpAny_pure (wpAny_bind (collect_set (A := A.in1) hh ⟨_, ho, rfl, rfl⟩ F.fit (by rw [hsz]; exact hb) W.1 W.2 fun s1 vs k1 hz g1 o1 pm => ?_)))
  have small : scanBound ≤ sizeLine := by decide
  have hvl : vs.length = l.length := by rw [pm.length_eq, List.length_map, Array.length_toList, hsz]
  have hel : ElemsOf (strKind P w) es.toList := F.el
  have shape : ∀ e ∈ es.toList, ∃ x u, e.2 = Value.str x u := fun e he => by
    obtain ⟨⟨k, hk, _⟩, _⟩ := hel e he
    obtain ⟨u, hu⟩ := Value.isStrOf_shape hk
    exact ⟨k, u, hu⟩
  have hS : StrsAre vs (vs.map strOf) := strsAre_map vs fun v hv => by
    obtain ⟨e, he, rfl⟩ := List.mem_map.mp (pm.mem_iff.mp hv)
    exact shape e he
  have pl : (vs.map strOf).Perm l := by
    refine (pm.map strOf).trans ?_
    rw [List.map_map]
    refine (same_all nd (fun k hk => ?_) (by rw [List.length_map, Array.length_toList, hsz])).symm
    obtain ⟨e, he, z⟩ := (F.mem k).mp hk
    obtain ⟨u, hu⟩ := Value.isStrOf_shape z
    exact List.mem_map.mpr ⟨e, he, by show strOf e.2 = k; rw [hu]; rfl⟩
  have fit : vs.length ≤ sizeLine := Nat.le_trans (by rw [hvl]; exact Nat.le_of_lt hb) small
  refine wpAny_bind (wpAny_newList ?_ fit)
  have at1 : (s1.heap.push (seqObj "list" vs.toArray 0)).get? s1.heap.objs.size = some (seqObj "list" vs.toArray 0) := Heap.get?_push_size _ rfl
  refine wpAny_bind (wpAny_holding (wpAny_call_entry PyProof.Rows.slot_list_sort ⟨_, at1, rfl⟩ PyProof.Rows.entry_list_sort (list_sort_treeKAny PyProof.Rows.strKind_oneLt at1 hS.keysOf (fun v1 v2 r e => keyKind_strs (by rw [← e]; exact hS)) fit fun so h1 h2 => ⟨_, rfl, ?_⟩) (PyProof.Rows.args_list_sort _)))
  obtain ⟨ys, h3, h4, h5⟩ := sorted_out_str hS h1 h2
  obtain ⟨c, at2⟩ := PyProof.Rows.sortedHeap_at (vs := vs) (out := (arrOf so).map (·.2)) at1
  refine wpAny_pure ⟨_, rfl, q _ s1.heap.objs.size _ c ys (fun b o z => ?_) g1 o1 hz at2 h3 h5 (h4.trans pl)⟩
  have lt := Heap.lt_size (k1 b o z)
  show (PyProof.Rows.sortedHeap (s1.heap.push (seqObj "list" vs.toArray 0)) s1.heap.objs.size vs _).get? b = some o
  rw [PyProof.Rows.sortedHeap_old (Nat.ne_of_lt lt) (by rw [size_push']; exact Nat.lt_succ_of_lt lt)]
  exact Heap.get?_push_of_some _ (k1 b o z)
end
/-- sorted(set(e)) -/
def tSortSet (te : TE) : TE := fun σ H Q => te σ H fun x H1 => ∃ z, x = .str z ∧ z.cps.size + 1 < scanBound ∧ ∀ (ys : List Str) (p : Addr), sortedS ys = true → ys.Nodup → (∀ y, y ∈ ys ↔ ∃ c ∈ z.cps.toList, y = ⟨#[c]⟩) → H1 p = none → Q (.ref p) (upd H1 p (.lst (ys.map V.str)))
theorem pe_sortSet {X : Cx} {e : Expr} {te : TE} {p1 p2 pos1 pos2 : Pos} (hc : X.calm = true) (hg : Gl X "sorted") (hm : X.mg "sorted" = none) (hg2 : Gl X "set") (hm2 : X.mg "set" = none) (he : PE X e te)
    (n1 : starEach [e] X.env = (false, eval e X.env) :: starEach [] X.env := by rfl) (n2 : starEach [.Call (.Name "set" p2) [e] [] pos2] X.env = (false, eval (.Call (.Name "set" p2) [e] [] pos2) X.env) :: starEach [] X.env := by rfl) :
    PE X (.Call (.Name "sorted" p1) [.Call (.Name "set" p2) [e] [] pos2] [] pos1) (tSortSet te) := by
  refine ⟨fun pins st σ H Q I h => Call_ (ld_blt I hg hm b_sorted (PyProof.Rows.callWith_builtin1 (PyProof.Rows.args_cons (Call_ (ld_blt I hg2 hm2 b_set
    (PyProof.Rows.callWith_type1 (PyProof.Rows.args_cons (thn (he.run pins st σ H _ I h) fun v s1 ⟨x, H1, I1, r1, q1⟩ => PyProof.Rows.args_nil ?_) n1) n1 rfl))) n2) n2 rfl))⟩
  obtain ⟨z, rfl, hz, q⟩ := q1
  obtain ⟨u, rfl⟩ := r1
  refine make (I1.ok.hd hc) hz fun hp tk has keep => ?_
  have I2 : Inv X pins σ H1 { s1 with heap := hp, toks := tk } := I1.kept fun b o e => keep b o (Heap.lt_size e) e
  obtain ⟨nd, ln, mem⟩ := memM_all _ z.cps.toList rfl
  have lz : z.cps.toList.length = z.cps.size := Array.length_toList
  have few : (memM z.cps.toList).length < scanBound := by omega
  refine PyProof.Rows.args_nil ?_
  refine sortSet (st := { s1 with heap := hp, toks := tk }) has nd (I2.ok.hd hc) few fun s2 p out c ys k g o hpz at2 sy h2 h3 => ?_
  have fit : (ys.map V.str).length ≤ sizeLine := by
    rw [List.length_map, h3.length_eq]
    exact Nat.le_trans (Nat.le_of_lt few) (by decide)
  have free : H1 p = none := I2.hok.fresh hpz
  have J : Inv X pins σ (upd H1 p (.lst (ys.map V.str))) s2 :=
    I2.call' (ch := []) o (Un.laid k hpz free) (I2.hok.laid k hpz ⟨fit, out.toList, c, vals_of_strs sy, at2⟩) (by rw [g]; exact I1.bare) (fun _ y => nomatch y)
  exact ⟨.ref p, _, J, rfl, q ys p h2 (h3.nodup_iff.mpr nd) (fun y => by rw [h3.mem_iff]; exact mem y) free⟩
end Tw

set_option maxHeartbeats 4000000
namespace Tw
open PySem PySem.Spec PyProof.Rows L2 LamX
/-! ### a <= b <= c <= d -/
def tChain3 (r r2 r3 : R2) (ta tb tc td : TE) : TE := fun σ H Q => ta σ H fun x H1 => tb σ H1 fun y H2 => r x y H2 fun z H3 => ∃ k, z = .bl k ∧
  (if k = true then tc σ H3 fun u H4 => r2 y u H4 fun z2 H5 => ∃ k2, z2 = .bl k2 ∧ (if k2 = true then td σ H5 fun v H6 => r3 u v H6 Q else Q (.bl false) H5) else Q (.bl false) H3)
theorem pe_chain3 {X : Cx} {o1 o2 o3 : CmpOp} {r r2 r3 : R2} {a b c d : Expr} {ta tb tc td : TE} {pos : Pos} (h1 : OpR X (compareOp o1) r) (h2 : OpR X (compareOp o2) r2) (h3 : OpR X (compareOp o3) r3) (ha : PE X a ta) (hb : PE X b tb) (hc : PE X c tc) (hd : PE X d td)
    (hm : lastMarks [o1, o2, o3] [b, c, d] = false := by with_unfolding_all rfl) : PE X (.Compare a [o1, o2, o3] [b, c, d] pos) (tChain3 r r2 r3 ta tb tc td) := by
  refine ⟨fun pins st σ H Q I h => Compare_chain (thn (ha.run pins st σ H _ I h) fun v s1 ⟨x, H1, I1, q1, w1⟩ => chain_link (thn (hb.run pins s1 σ H1 _ I1 w1) fun u s2 ⟨y, H2, I2, q2, w2⟩ =>
    thn (h1 pins s2 σ H2 x y v u _ I2 q1 q2 w2) fun t s3 ⟨z, H3, I3, q3, k, e, w3⟩ => ?_)) hm⟩
  subst e
  cases q3
  refine wpAny_truthy_bool ?_
  cases k with
  | false => exact ite_ff ⟨.bl false, H3, I3, rfl, w3⟩
  | true =>
    refine ite_tt (chain_link (thn (hc.run pins s3 σ H3 _ I3 w3) fun v2 s4 ⟨x2, H4, I4, q4, w4⟩ => thn (h2 pins s4 σ H4 y x2 u v2 _ I4 q2 q4 w4) fun t2 s5 ⟨z2, H5, I5, q5, k2, e2, w5⟩ => ?_))
    subst e2
    cases q5
    refine wpAny_truthy_bool ?_
    cases k2 with
    | false => exact ite_ff ⟨.bl false, H5, I5, rfl, w5⟩
    | true => exact ite_tt (chain_last (thn (hd.run pins s5 σ H5 _ I5 w5) fun v3 s6 ⟨x3, H6, I6, q6, w6⟩ => h3 pins s6 σ H6 x2 x3 v2 v3 Q I6 q4 q6 w6))
/-! ### the first place of a sign -/
open StrLaws Builtin Builtin.Str in
theorem occ_full (x : Str) (c : Nat) : ∀ (k i : Nat) (st : Array Nat × Nat), 1 ≤ st.1.size → (forIn (List.range' i k) st (occBody x ⟨#[c]⟩ x.length 1)).run.fst = st.1
  | 0, i, st, _ => by simp
  | k + 1, i, st, h => by
    rw [List.range'_succ, List.forIn_cons]
    unfold occBody
    rw [if_neg (fun z => absurd z.1.1.1 (by omega))]
    exact occ_full x c k (i + 1) (st.fst, st.snd) h
open StrLaws Builtin Builtin.Str in
theorem occ_first (x : Str) (c j : Nat) (hj : x.cps.toList[j]? = some c) : ∀ (k i f : Nat), f ≤ i → i ≤ j → j < i + k → (∀ m, i ≤ m → m < j → x.cps.toList[m]? ≠ some c) →
    (forIn (List.range' i k) ((#[], f) : Array Nat × Nat) (occBody x ⟨#[c]⟩ x.length 1)).run.fst = #[j]
  | 0, i, f, _, h1, h2, _ => absurd h2 (by omega)
  | k + 1, i, f, hf, h1, h2, h3 => by
    rw [List.range'_succ, List.forIn_cons]
    unfold occBody
    by_cases e : i = j
    · subst e
      have hs := (subAt_one x c i).mpr hj
      rw [if_pos ⟨⟨⟨Nat.zero_lt_one, hf⟩, hs.1⟩, hs.2⟩]
      exact occ_full x c k (i + 1) (#[].push i, i + (⟨#[c]⟩ : Str).length) (Nat.le_refl 1)
    · rw [if_neg (fun z => h3 i (Nat.le_refl _) (by omega) ((subAt_one x c i).mp ⟨z.1.2, z.2⟩))]
      exact occ_first x c j hj k (i + 1) f (by omega) (by omega) (by omega) fun m hm => h3 m (by omega)
theorem idx_S {l : List Nat} {c i : Nat} (h : l[i]? = some c) (h0 : ∀ j, j < i → l[j]? ≠ some c) : Builtin.Str.occurrences (S l) (S [c]) 0 (S l).length 1 = [i] := by
  have hi : i < l.length := (List.getElem?_eq_some_iff.mp h).1
  have e : S [c] = ⟨#[c]⟩ := rfl
  rw [e, StrLaws.occ_eq]
  have z := occ_first (S l) c i (by simpa [S] using h) ((S l).length + 1 - 0) 0 0 (Nat.le_refl _) (Nat.zero_le _) (by rw [S_len]; omega) (fun m _ hm => by simpa [S] using h0 m hm)
  rw [z]
/-! ### list(text) -/
def rListS : List V → Hp → VK → Prop := fun xs H Q => ∃ l : List Nat, xs = [.str (S l)] ∧ l.length ≤ 100000 ∧ ∀ p, H p = none → Q (.ref p) (upd H p (.lst (l.map fun c => V.str (S [c]))))
theorem call_list_txt {X : Cx} (hc : X.calm = true) : CallR X (.type "list") rListS := by
  intro pins st σ H xs us Q I r h
  obtain ⟨l, rfl, hl, q⟩ := h
  obtain ⟨u, rfl, t, rfl⟩ := vals1 r
  have sz : (S l).cps.size = l.length := S_len l
  have fit : l.length ≤ sizeLine := Nat.le_trans hl (by decide)
  refine call_list_str (I.ok.hd hc) (S l) t (hn := by rw [sz]; exact fit) fun hp tk acc c k e hi => ?_
  have vs : Vals (l.map fun c => V.str (S [c])) acc.toList := by
    have n : acc.toList.length = l.length := by rw [Array.length_toList]; exact hi.1.trans sz
    refine vals_of_at (by rw [List.length_map, n]) fun j x u hx hu => ?_
    rw [List.getElem?_map] at hx
    obtain ⟨d, hd, rfl⟩ := Option.map_eq_some_iff.mp hx
    obtain ⟨d2, w, h1, rfl⟩ := hi.2 j u (by rw [← hu, Array.getElem?_toList])
    have h1 : l[j]? = some d2 := by simpa [S] using h1
    rw [hd] at h1
    cases h1
    exact ⟨w, rfl⟩
  exact ⟨.ref st.heap.objs.size, _, I.laid (o := .lst (l.map fun c => V.str (S [c]))) k (Nat.le_refl _) ⟨by rw [List.length_map]; exact fit, acc.toList, c, vs, by rw [Array.toArray_toList]; exact e⟩, rfl, q _ (I.hok.fresh (Nat.le_refl _))⟩
end Tw

set_option maxHeartbeats 4000000
namespace Tw
open PySem PyProof.Rows
/-! ### signs by their codes -/
def sg (c : Nat) : Str := S [c]
theorem sg_inj {a b : Nat} (h : sg a = sg b) : a = b := (List.cons.inj (S_inj h)).1
theorem sg_le {a b : Nat} : LeS (sg a) (sg b) ↔ a ≤ b := by
  show ([a] : List Nat) ≤ [b] ↔ _
  constructor
  · intro h
    by_cases z : b < a
    · exact absurd (List.cons_lt_cons_iff.mpr (.inl z)) h
    · omega
  · intro h z
    rcases List.cons_lt_cons_iff.mp z with z | ⟨_, z⟩
    · omega
    · exact absurd z (by simp)
theorem ltr_lt (cs : List Nat) : (ltr cs).Pairwise (· < ·) := by
  unfold ltr fr
  exact List.Pairwise.filter _ List.pairwise_lt_range
theorem letters_are {cs : List Nat} (hc : ∀ c ∈ cs, c < 128) {ys : List Str} (s : sortedS ys = true) (nd : ys.Nodup) (m : ∀ y, y ∈ ys ↔ ∃ c ∈ cs, y = ⟨#[c]⟩) : ys = (ltr cs).map sg := by
  have nd2 : ((ltr cs).map sg).Nodup := List.pairwise_map.mpr ((ltr_lt cs).imp fun h z => absurd (sg_inj z) (Nat.ne_of_lt h))
  refine sorted_one s (List.pairwise_map.mpr ((ltr_lt cs).imp fun h => sg_le.mpr (Nat.le_of_lt h))) ((List.perm_ext_iff_of_nodup nd nd2).mpr fun y => ?_)
  rw [m, List.mem_map]
  constructor
  · rintro ⟨c, h, e⟩
    exact ⟨c, ltr_mem.mpr ⟨hc c h, h⟩, e.symm⟩
  · rintro ⟨c, h, e⟩
    exact ⟨c, (ltr_mem.mp h).2, e.symm⟩
theorem sorted_signs {E : List Nat} {ys : List Str} (p : ys.Perm (E.map sg)) (s : sortedS ys = true) : ∃ zs : List Nat, ys = zs.map sg ∧ zs.Perm E ∧ zs.Pairwise (· ≤ ·) := by
  have hd : ∀ y ∈ ys, sg (y.cps.toList.headD 0) = y := fun y hy => by
    obtain ⟨c, _, rfl⟩ := List.mem_map.mp (p.mem_iff.mp hy)
    rfl
  have e : ys = (ys.map fun y => y.cps.toList.headD 0).map sg := by
    rw [List.map_map]
    conv => lhs; rw [← List.map_id ys]
    exact List.map_congr_left fun y hy => (hd y hy).symm
  refine ⟨ys.map fun y => y.cps.toList.headD 0, e, ?_, ?_⟩
  · have q := p.map fun y : Str => y.cps.toList.headD 0
    rw [List.map_map] at q
    have i : (fun y : Str => y.cps.toList.headD 0) ∘ sg = id := rfl
    rw [i, List.map_id] at q
    exact q
  · have q := sorted_le s
    rw [e] at q
    exact (List.pairwise_map.mp q).imp fun h => sg_le.mp h
/-- the j-th of the sorted -/
def Nth (E : List Nat) (j c : Nat) : Prop := E.countP (fun d => decide (d < c)) ≤ j ∧ j < E.countP (fun d => decide (d ≤ c))
theorem nth_one {E : List Nat} {j c d : Nat} (h : Nth E j c) (h2 : Nth E j d) : c = d := by
  have step : ∀ a b, a < b → E.countP (fun d => decide (d ≤ a)) ≤ E.countP (fun d => decide (d < b)) := fun a b ab => List.countP_mono_left fun x _ z => by
    rw [decide_eq_true_eq] at z ⊢
    omega
  rcases Nat.lt_trichotomy c d with z | z | z
  · have := step c d z
    have := h.2
    have := h2.1
    omega
  · exact z
  · have := step d c z
    have := h2.2
    have := h.1
    omega
theorem nth_sorted : ∀ {zs : List Nat} {j c : Nat}, zs.Pairwise (· ≤ ·) → zs[j]? = some c → Nth zs j c
  | [], _, _, _, h => by simp at h
  | z :: zs, 0, c, hp, h => by
    have e : z = c := by simpa using h
    subst e
    obtain ⟨h1, h2⟩ := List.pairwise_cons.mp hp
    refine ⟨?_, ?_⟩
    · rw [List.countP_eq_zero.mpr]
      · exact Nat.le_refl _
      · intro a ha
        rw [decide_eq_true_eq]
        rcases List.mem_cons.mp ha with rfl | ha
        · omega
        · have := h1 a ha
          omega
    · rw [List.countP_cons, if_pos (decide_eq_true (Nat.le_refl _))]
      omega
  | z :: zs, j + 1, c, hp, h => by
    obtain ⟨h1, h2⟩ := List.pairwise_cons.mp hp
    have ih := nth_sorted h2 (show zs[j]? = some c from h)
    have zc := h1 c (List.mem_of_getElem? (show zs[j]? = some c from h))
    refine ⟨?_, ?_⟩
    · rw [List.countP_cons]
      have := ih.1
      split <;> omega
    · rw [List.countP_cons, if_pos (decide_eq_true zc)]
      have := ih.2
      omega
theorem nth_perm {E F : List Nat} {j c : Nat} (p : E.Perm F) (h : Nth E j c) : Nth F j c := by
  unfold Nth at h ⊢
  rw [← p.countP_eq, ← p.countP_eq]
  exact h
theorem span_map {α β : Type} (g : α → β) (l : List α) (f e : Nat) : spanW (l.map g) f e = (spanW l f e).map g := by
  unfold spanW
  rw [← List.map_take, ← List.map_drop]
theorem span_mem {α : Type} {l : List α} {f e : Nat} {x : α} (h : x ∈ spanW l f e) : x ∈ l := List.mem_of_mem_take (List.mem_of_mem_drop h)
section
variable {cs : List Nat}
/-- how many of a span are less, by words -/
theorem less_words (hc : ∀ c ∈ cs, c < 128) {f e s : Nat} {v : Wd} (hv : v.length = wdt cs) (hs : vb v = ixc cs s) : lessC (wdt cs) v (spanW (wos cs) f e) = (spanW cs f e).countP fun d => decide (d < s) := by
  unfold lessC wos
  rw [span_map, List.countP_map]
  refine List.countP_congr fun d hd => ?_
  have hd := span_mem hd
  show decide (vb ((wo cs d).take (wdt cs)) < vb v) = true ↔ _
  rw [List.take_of_length_le (Nat.le_of_eq wo_len), wo_vb hd (hc d hd), hs, decide_eq_true_eq, decide_eq_true_eq, ixc_less hd]
theorem same_words (hc : ∀ c ∈ cs, c < 128) {f e s : Nat} (hs : s ∈ cs) : ((spanW (wos cs) f e).filter (same (wdt cs) (wo cs s))).length = (spanW cs f e).countP fun d => decide (d = s) := by
  rw [← List.countP_eq_length_filter]
  unfold wos
  rw [span_map, List.countP_map]
  refine List.countP_congr fun d hd => ?_
  have hd := span_mem hd
  show ((wo cs d).take (wdt cs) == (wo cs s).take (wdt cs)) = true ↔ _
  rw [List.take_of_length_le (Nat.le_of_eq wo_len), List.take_of_length_le (Nat.le_of_eq wo_len), beq_iff_eq, wo_inj hd (hc d hd) hs (hc s hs), decide_eq_true_eq]
theorem count_le (E : List Nat) (s : Nat) : E.countP (fun d => decide (d ≤ s)) = E.countP (fun d => decide (d < s)) + E.countP (fun d => decide (d = s)) := by
  induction E with
  | nil => rfl
  | cons x E ih =>
    rw [List.countP_cons, List.countP_cons, List.countP_cons, ih]
    simp only [decide_eq_true_eq]
    (repeat' split) <;> omega
/-- the word found by ranks is the word of the sign that stands there -/
theorem ranked_word (hc : ∀ c ∈ cs, c < 128) {f e j n : Nat} {v : Wd} (hv : v.length = wdt cs) (hn : n < ((spanW (wos cs) f e).filter (same (wdt cs) v)).length) (hj : n + lessC (wdt cs) v (spanW (wos cs) f e) = j) :
    ∃ c, c ∈ cs ∧ v = wo cs c ∧ Nth (spanW cs f e) j c := by
  obtain ⟨y, hy⟩ := List.exists_mem_of_length_pos (show 0 < ((spanW (wos cs) f e).filter (same (wdt cs) v)).length by omega)
  obtain ⟨hy1, hy2⟩ := List.mem_filter.mp hy
  obtain ⟨c, hcm, rfl⟩ := List.mem_map.mp (span_mem hy1)
  have ev : v = wo cs c := by
    unfold same at hy2
    rw [List.take_of_length_le (Nat.le_of_eq wo_len), List.take_of_length_le (Nat.le_of_eq hv), beq_iff_eq] at hy2
    exact hy2.symm
  subst ev
  refine ⟨c, hcm, rfl, ?_⟩
  rw [less_words hc hv (wo_vb hcm (hc c hcm))] at hj
  rw [same_words hc hcm] at hn
  unfold Nth
  rw [count_le]
  omega
end
open L2 in
theorem kept_gen {α : Type} (d : α) (g : α → Bool) (h : α → V) : ∀ L : List α, kept L.length (fun i => g (L.getD i d)) (fun i => h (L.getD i d)) = (L.filter g).map h := by
  intro L
  unfold kept
  have e : L = (List.range L.length).map fun i => L.getD i d := by
    refine List.ext_getElem? fun i => ?_
    rw [List.getElem?_map]
    by_cases hi : i < L.length
    · rw [List.getElem?_range hi, List.getElem?_eq_getElem hi]
      show _ = some (L.getD i d)
      rw [List.getD_eq_getElem?_getD, List.getElem?_eq_getElem hi]
      rfl
    · rw [List.getElem?_eq_none (by omega), List.getElem?_eq_none (by rw [List.length_range]; omega)]
      rfl
  conv => rhs; rw [e]
  rw [List.filter_map, List.map_map]
  rfl
/-- a sign that may stand in a text -/
def okSg (c : Nat) : Bool := decide (32 ≤ c) && decide (c ≤ 126) && decide (c ≠ 37)
theorem okSg_iff {c : Nat} : okSg c = true ↔ 32 ≤ c ∧ c ≤ 126 ∧ c ≠ 37 := by
  unfold okSg
  rw [Bool.and_eq_true, Bool.and_eq_true, decide_eq_true_eq, decide_eq_true_eq, decide_eq_true_eq, and_assoc]
def goodT (l : List Nat) : Prop := l.length ≤ 512 ∧ ∀ c ∈ l, okSg c = true
theorem goodT.lt {l : List Nat} (h : goodT l) : ∀ c ∈ l, c < 128 := fun c hc => by
  have := okSg_iff.mp (h.2 c hc)
  omega
theorem ltr_len (l : List Nat) : (ltr l).length ≤ 128 := fr_le
theorem wdt_le (l : List Nat) : wdt l ≤ 8 := (nd_le _ _).mpr (Nat.lt_of_le_of_lt (show (ltr l).length - 1 ≤ 128 by have := ltr_len l; omega) (by decide))
theorem ix_first {l : List Nat} {c : Nat} (h : c ∈ l) (hc : c < 128) : Builtin.Str.occurrences (S (ltr l)) (S [c]) 0 (S (ltr l)).length 1 = [ixc l c] := by
  refine idx_S (ltr_get h hc) fun j hj z => ?_
  have h1 := List.pairwise_iff_getElem.mp (ltr_lt l) j (ixc l c) (List.getElem?_eq_some_iff.mp z).1 (ixc_lt h hc) hj
  rw [(List.getElem?_eq_some_iff.mp z).2, (List.getElem?_eq_some_iff.mp (ltr_get h hc)).2] at h1
  exact Nat.lt_irrefl _ h1
theorem flat1 {α : Type} : ∀ s : List α, (s.map fun b => [b]).flatten = s
  | [] => rfl
  | a :: s => by rw [List.map_cons, List.flatten_cons, flat1 s]; rfl
open L2 in
theorem sgn_dec (a b : Bool) : decide (V.str ⟨#[bc a]⟩ = V.str (sb [b])) = (a == b) := by
  have h : (V.str ⟨#[bc a]⟩ = V.str (sb [b])) ↔ a = b := by
    constructor
    · intro h
      injection h with h
      have h2 : sb [a] = sb [b] := h
      exact (List.cons.inj (sb_inj h2)).1
    · intro h
      rw [h]
      rfl
  rw [Bool.eq_iff_iff, decide_eq_true_eq, beq_iff_eq]
  exact h
theorem snoc_get {α : Type} {l : List α} {x y : α} {j : Nat} (h : (l ++ [x])[j]? = some y) : l[j]? = some y ∨ (j = l.length ∧ y = x) := by
  by_cases hj : j < l.length
  · rw [List.getElem?_append_left hj] at h
    exact .inl h
  · rw [List.getElem?_append_right (by omega)] at h
    cases hk : j - l.length with
    | zero =>
      rw [hk] at h
      exact .inr ⟨by omega, (Option.some.inj h).symm⟩
    | succ k =>
      rw [hk] at h
      cases h
end Tw

set_option maxHeartbeats 4000000
namespace Tw
open PySem PyProof.Rows
/-! ### a word by its place, places back -/
section
variable {W A C : List Wd} {x : Wd} {k p : Nat}
theorem Blk.get (B : Blk W x k A C) (h : W[p]? = some x) : (rowW W k)[pp W x p k]? = some x := by
  have hp : p < W.length := (List.getElem?_eq_some_iff.mp h).1
  have e : W.drop p = x :: W.drop (p + 1) := by
    rw [List.drop_eq_getElem_cons hp, (List.getElem?_eq_some_iff.mp h).2]
  rw [B.at_ p (by omega), B.row, List.getElem?_append_right (by omega), Nat.add_sub_cancel_left, Blk.split (W := W) p, List.append_assoc, List.getElem?_append_right (Nat.le_refl _), Nat.sub_self, e,
    List.filter_cons_of_pos (show same k x x = true by unfold same; exact beq_self_eq_true _)]
  rfl
theorem Blk.bit (B : Blk W x k A C) (h : W[p]? = some x) : (rowB W k)[pp W x p k]? = some (bk k x) := by
  unfold rowB
  rw [List.getElem?_map, B.get h]
  rfl
theorem Blk.zero (B : Blk W x k A C) : pp W x 0 k = A.length := by
  rw [B.at_ 0 (Nat.zero_le _)]
  simp
theorem Blk.diff (B : Blk W x k A C) (hp : p ≤ W.length) : pp W x p k = pp W x 0 k + ((W.take p).filter (same k x)).length := by rw [B.zero, B.at_ p hp]
end
/-! ### where a sign stands -/
def occ (l : List Nat) (s : Nat) : List Nat := fr (fun i => l[i]? == some s) l.length
theorem occ_pre {l : List Nat} {s : Nat} : ∀ {p : Nat}, p ≤ l.length → (fr (fun i => l[i]? == some s) p).length = (l.take p).count s
  | 0, _ => by simp [fr]
  | p + 1, h => by
    rw [fr_len_succ, occ_pre (p := p) (by omega), List.take_add_one, List.getElem?_eq_getElem (show p < l.length by omega), List.count_append]
    congr 1
    show _ = [l[p]].count s
    rw [List.count_singleton, Bool.beq_eq_decide_eq]
    by_cases e : l[p] = s
    · rw [e]
      simp
    · simp [e]
theorem occ_len (l : List Nat) (s : Nat) : (occ l s).length = l.count s := by
  have := occ_pre (l := l) (s := s) (Nat.le_refl _)
  rw [List.take_length] at this
  exact this
theorem occ_at {l : List Nat} {s n p : Nat} (h : (occ l s)[n]? = some p) : l[p]? = some s ∧ (l.take p).count s = n := by
  have hm := fr_mem.mp (List.mem_of_getElem? h)
  have hs : l[p]? = some s := beq_iff_eq.mp hm.2
  refine ⟨hs, ?_⟩
  rw [← occ_pre (Nat.le_of_lt hm.1)]
  have h2 : (occ l s)[(fr (fun i => l[i]? == some s) p).length]? = some p := fr_get hm.1 hm.2
  have nd : (occ l s).Pairwise (· < ·) := by
    unfold occ fr
    exact List.Pairwise.filter _ List.pairwise_lt_range
  have a1 := List.getElem?_eq_some_iff.mp h
  have a2 := List.getElem?_eq_some_iff.mp h2
  obtain ⟨b1, e1⟩ := a1
  obtain ⟨b2, e2⟩ := a2
  have q := List.pairwise_iff_getElem.mp nd
  rcases Nat.lt_trichotomy n (fr (fun i => l[i]? == some s) p).length with z | z | z
  · have := q n _ b1 b2 z
    omega
  · exact z.symm
  · have := q _ n b2 b1 z
    omega
section
variable {cs : List Nat} {s p : Nat}
theorem words_count (hc : ∀ c ∈ cs, c < 128) (hs : s ∈ cs) : (((wos cs).take p).filter (same (wdt cs) (wo cs s))).length = (cs.take p).count s := by
  have h := same_words (cs := cs) hc (f := 0) (e := p) hs
  unfold spanW at h
  rw [List.drop_zero, List.drop_zero] at h
  rw [h, List.count_eq_countP]
  refine List.countP_congr fun d _ => ?_
  rw [decide_eq_true_eq, beq_iff_eq]
theorem wos_at (h : cs[p]? = some s) : (wos cs)[p]? = some (wo cs s) := by
  unfold wos
  rw [List.getElem?_map, h]
  rfl
end
theorem cut_tail {l : List Nat} {n : Nat} : (l.drop n).head? = l[n]? := by
  rw [List.head?_drop]
/-- how often a sign stands in a text -/
theorem count_S (l : List Nat) (c : Nat) : Txt.count (S l) (S [c]) = (l.count c : Int) := by
  have e1 : S [c] = ⟨#[c]⟩ := rfl
  unfold Txt.count
  rw [e1, StrLaws.occ_eq, occ_one (S l) c ((S l).length + 1) ((S l).length + 1 - 0) 0 (#[], 0) (Nat.le_refl _) (by show 0 + ((S l).length + 1 - 0) ≤ _; omega)]
  congr 1
  rw [← occ_len]
  show (([] : List Nat) ++ (List.range' 0 ((S l).length + 1 - 0)).filter _).length = (fr (fun i => l[i]? == some c) l.length).length
  rw [List.nil_append, Nat.sub_zero, S_len, ← List.range_eq_range', List.range_succ, List.filter_append]
  have h0 : (S l).cps.toList = l := rfl
  rw [h0]
  have h1 : List.filter (fun j => l[j]? == some c) [l.length] = [] := by
    rw [List.filter_cons, List.getElem?_eq_none (Nat.le_refl _)]
    rfl
  rw [h1, List.append_nil]
  rfl
end Tw

namespace Tw
open PySem PySem.Spec PyProof.Rows L2 LamX
/-! ### signs of nodes, ways down to nodes, the nodes of a path -/
variable {l : List Bool} {s : List Nat}
/-- a node's sign -/
def sgm (l : List Bool) (s : List Nat) (j : Nat) : Nat := s.getD (cn true l j) 0
/-- a node's children with a sign -/
def chBy (l : List Bool) (s : List Nat) (j c : Nat) : List Nat := (below l j).filter fun x => sgm l s x == c
/-- the signs from the first node down to one -/
def wy (l : List Bool) (s : List Nat) (j : Nat) : List Nat := (stk l j ++ [j]).map (sgm l s)
/-- the nodes of a path -/
def nodesOf (l : List Bool) (s : List Nat) (t : List Nat) : List Nat := (pos true l).filter fun j => wy l s j == t
theorem cn_lt_half (W : okT l) {j : Nat} (hj : l[j]? = some true) : cn true l j < l.length / 2 := by
  have h1 := cn_lt hj (len_of hj)
  have := W.len
  omega
theorem sgm_at (W : okT l) (hs : s.length = l.length / 2) {j : Nat} (hj : l[j]? = some true) : s[cn true l j]? = some (sgm l s j) := by
  have := cn_lt_half W hj
  unfold sgm
  rw [List.getD_eq_getElem?_getD, List.getElem?_eq_getElem (by omega)]
  rfl
theorem wy_child {p c : Nat} (h : isCh l p c = true) : wy l s c = wy l s p ++ [sgm l s c] := by
  unfold wy
  rw [up_stk (isCh_iff.mp h).2, List.map_append]
  rfl
theorem mem_pos {j : Nat} : j ∈ pos true l ↔ l[j]? = some true := by
  unfold pos fr bt
  rw [List.mem_filter, List.mem_range]
  constructor
  · intro h
    exact beq_iff_eq.mp h.2
  · intro h
    exact ⟨len_of h, beq_iff_eq.mpr h⟩
theorem mem_nodesOf {t : List Nat} {j : Nat} : j ∈ nodesOf l s t ↔ l[j]? = some true ∧ wy l s j = t := by
  unfold nodesOf
  rw [List.mem_filter, mem_pos, beq_iff_eq]
theorem nodesOf_inc {t : List Nat} : (nodesOf l s t).Pairwise (· < ·) := pos_inc.sublist List.filter_sublist
theorem below_inc {p : Nat} : (below l p).Pairwise (· < ·) := by
  unfold below fr
  exact List.pairwise_lt_range.sublist List.filter_sublist
theorem mem_below {p x : Nat} : x ∈ below l p ↔ isCh l p x = true := by
  unfold below fr
  rw [List.mem_filter, List.mem_range]
  exact ⟨fun h => h.2, fun h => ⟨len_of (isCh_iff.mp h).1, h⟩⟩
theorem inc_uniq {a b : List Nat} (h1 : a.Pairwise (· < ·)) (h2 : b.Pairwise (· < ·)) (h : ∀ x, x ∈ a ↔ x ∈ b) : a = b :=
  List.Perm.eq_of_pairwise (fun x y _ _ p q => absurd p (by omega)) h1 h2 ((List.perm_ext_iff_of_nodup (h1.imp fun h => Nat.ne_of_lt h) (h2.imp fun h => Nat.ne_of_lt h)).mpr h)
/-- children of two nodes of one depth -/
theorem child_order (W : okT l) {i j x y : Nat} (hi : l[i]? = some true) (hj : l[j]? = some true) (hij : i < j) (hd : (stk l i).length = (stk l j).length) (hx : isCh l i x = true) (hy : isCh l j y = true) : x < y := by
  have h1 := child_lt hy
  refine Nat.lt_of_not_le fun h => ?_
  have hxl := len_of (isCh_iff.mp hx).1
  have hm := (open_iff W hi (Nat.le_of_lt hxl)).mp (up_mem (isCh_iff.mp hx).2)
  have hm2 := (open_iff W hi (Nat.le_of_lt (len_of hj))).mpr ⟨hij, by omega⟩
  obtain ⟨k, hk⟩ := List.getElem?_of_mem hm2
  have hkl := (List.getElem?_eq_some_iff.mp hk).1
  have := congrArg List.length (stk_pre hk)
  rw [List.length_take] at this
  omega
theorem path_step (W : okT l) {t : List Nat} {c : Nat} (ht : t ≠ []) : ((nodesOf l s t).flatMap fun j => chBy l s j c) = nodesOf l s (t ++ [c]) := by
  have hw : ∀ {j x}, l[j]? = some true → wy l s j = t → x ∈ chBy l s j c → isCh l j x = true := fun _ _ h => mem_below.mp (List.mem_filter.mp h).1
  refine inc_uniq (List.pairwise_flatMap.mpr ⟨fun j _ => below_inc.sublist List.filter_sublist, ?_⟩) nodesOf_inc fun x => ?_
  · refine nodesOf_inc.imp_of_mem fun {i j} hi hj hij x hx y hy => ?_
    obtain ⟨h1, h2⟩ := mem_nodesOf.mp hi
    obtain ⟨h3, h4⟩ := mem_nodesOf.mp hj
    have e := congrArg List.length (h2.trans h4.symm)
    unfold wy at e
    rw [List.length_map, List.length_map, List.length_append, List.length_append] at e
    exact child_order W h1 h3 hij (Nat.add_right_cancel e) (hw h1 h2 hx) (hw h3 h4 hy)
  · rw [List.mem_flatMap, mem_nodesOf]
    constructor
    · rintro ⟨j, hj, hx⟩
      obtain ⟨h1, h2⟩ := mem_nodesOf.mp hj
      have hc := hw h1 h2 hx
      refine ⟨(isCh_iff.mp hc).1, ?_⟩
      rw [wy_child hc, h2, beq_iff_eq.mp (List.mem_filter.mp hx).2]
    · rintro ⟨h1, h2⟩
      cases hu : up l x with
      | none =>
        exfalso
        have : stk l x = [] := List.getLast?_eq_none_iff.mp hu
        unfold wy at h2
        rw [this] at h2
        have := congrArg List.length h2
        rw [List.length_append] at this
        cases t with
        | nil => exact ht rfl
        | cons a t => simp at this
      | some p =>
        have hc : isCh l p x = true := isCh_iff.mpr ⟨h1, hu⟩
        rw [wy_child hc] at h2
        obtain ⟨e1, e2⟩ := List.append_inj' h2 rfl
        injection e2 with e2
        exact ⟨p, mem_nodesOf.mpr ⟨up_one hu, e1⟩, List.mem_filter.mpr ⟨mem_below.mpr hc, beq_iff_eq.mpr e2⟩⟩
theorem path_first (W : okT l) {c : Nat} : nodesOf l s [c] = if sgm l s 0 = c then [0] else [] := by
  have h0 : stk l 0 = [] := rfl
  refine inc_uniq nodesOf_inc (by split <;> simp) fun x => ?_
  rw [mem_nodesOf]
  constructor
  · rintro ⟨h1, h2⟩
    cases hu : up l x with
    | none =>
      have e := up_none W h1 hu
      subst e
      unfold wy at h2
      rw [h0] at h2
      injection h2 with h2
      rw [if_pos h2]
      exact List.mem_singleton.mpr rfl
    | some p =>
      exfalso
      have := congrArg List.length h2
      unfold wy at this
      rw [up_stk hu] at this
      simp at this
  · intro h
    by_cases hc : sgm l s 0 = c
    · rw [if_pos hc] at h
      have e := List.mem_singleton.mp h
      subst e
      refine ⟨W.first, ?_⟩
      unfold wy
      rw [h0]
      exact congrArg (fun z => [z]) hc
    · rw [if_neg hc] at h
      cases h
/-- the signs of a node's own nodes -/
theorem own_signs (W : okT l) (hs : s.length = l.length / 2) {p : Nat} (hp : l[p]? = some true) : (own l p).map (sgm l s) = (s.drop (cn true l p)).take (many l p) := by
  refine List.ext_getElem? fun i => ?_
  rw [List.getElem?_map]
  by_cases h : i < many l p
  · obtain ⟨c, h1, h2, h3, _, _⟩ := own_get W hp h
    have e := (pos_at h1).2
    rw [h2, List.getElem?_take_of_lt h, List.getElem?_drop, ← e, sgm_at W hs h3]
    rfl
  · rw [List.getElem?_eq_none (by rw [ownN_len W hp]; omega), List.getElem?_eq_none (by rw [List.length_take]; omega)]
    rfl
theorem count_own (W : okT l) (hs : s.length = l.length / 2) {p c : Nat} (hp : l[p]? = some true) : (s.take (cn true l p + many l p)).count c = (s.take (cn true l p)).count c + ((own l p).map (sgm l s)).count c := by
  rw [own_signs W hs hp, List.take_add, List.count_append]
end Tw

set_option maxHeartbeats 4000000
namespace Tw
open PySem PySem.Spec PyProof.Rows L2 LamX
section
variable {P : Program} {w : World} {K : PySem.W.Frag} {mg : Str → Option Value} {base : Heap}
def spNeeds (K : PySem.W.Frag) : Sp := fun vs H Q E => ∃ n : Int, vs = [.int n] ∧ (0 ≤ n → Q (.int (nd n.toNat)) H) ∧ (n < 0 → E (.ref (He.ga K "BadNumber")) none H)
theorem ok_needs (T : Tx K mg) : OkN P w K mg base ("needs", none) 1 ["number"] (spNeeds K) := by
  refine T.F_needs.ok sc_needs (fun vs H Q E h => ?_) (fun cdv A outer s H vs Q E hr h => ?_)
  · obtain ⟨n, rfl, _⟩ := h
    rfl
  · obtain ⟨n, rfl, q1, q2⟩ := h
    refine ⟨_, (pss_cons (ps_if (pt_cmpR op_lt (pv 0) pe_int (nomark _))
    (pss_one (ps_rz T.x_BadNumber rfl (by decide))) pss_nil)
    (pss_cons (ps_set (i := 1) sc_needs.nd rfl (.inl rfl) pe_int)
    (pss_cons (ps_while (passes_of rfl) (pt_cmpR op_gt (pv 0) pe_int (nomark _))
    (pss_cons (ps_set (i := 0) sc_needs.nd rfl (.inl rfl) (pe_op op_fdiv (pv 0) pe_int))
    (pss_one (ps_set (i := 1) sc_needs.nd rfl (.inl rfl) (pe_op op_add (pv 1) pe_int)))))
    (pss_one (ps_ret (pv 1)))))), ?_⟩
    refine ⟨_, rfl, _, _, rfl, rfl, _, rfl, ite2 (fun e => q2 (of_decide_eq_true e)) (fun e => ?_)⟩
    have h0 : 0 ≤ n := by simp only [decide_eq_true_eq] at e; omega
    refine ⟨fun m σ H' => ∃ c : Nat, σ = [some (.int m), some (.int c)] ∧ H' = H ∧ c + nd m = nd n.toNat, ⟨n.toNat, 0, by rw [Int.toNat_of_nonneg h0]; rfl, rfl, Nat.zero_add _⟩, fun m σ H' hW => ?_⟩
    obtain ⟨c, rfl, rfl, ec⟩ := hW
    refine ⟨_, rfl, _, _, rfl, rfl, _, rfl, ite2 (fun e => ?_) (fun e => ?_)⟩
    · have hm : 0 < m := by simp only [decide_eq_true_eq] at e; omega
      refine ⟨fun σ' H'' => ∃ m', m' < m ∧ ∃ c : Nat, σ' = [some (.int m'), some (.int c)] ∧ H'' = H' ∧ c + nd m' = nd n.toNat, fun _ _ h => h, ?_⟩
      refine ⟨_, rfl, _, _, rfl, rfl, ⟨by decide, by decide⟩, _, rfl, _, _, rfl, rfl, m / 2, by omega, c + 1, ?_, rfl, ?_⟩
      · exact rfl
      · rw [← ec, nd_pos hm]; omega
    · have hm : m = 0 := by simp only [decide_eq_true_eq] at e; omega
      subst hm
      refine ⟨_, rfl, ?_⟩
      have e0 : c = nd n.toNat := by rw [← ec, nd_zero]; rfl
      rw [e0]
      exact q1 h0
def spInBits : Sp := fun vs H Q _ => ∃ n w : Nat, vs = [.int n, .int w] ∧ w ≤ 100000 ∧ Q (.str (sb (bn n w))) H
theorem ok_in_bits (T : Tx K mg) : OkN P w K mg base ("in_bits", none) 1 ["number", "wide"] spInBits := by
  refine T.F_in_bits.ok sc_in_bits (fun vs H Q E h => ?_) (fun cdv A outer s H vs Q E hr h => ?_)
  · obtain ⟨n, wd, rfl, _⟩ := h
    rfl
  · obtain ⟨n, wd, rfl, hw, q⟩ := h
    refine ⟨_, (pss_cons (ps_set (i := 2) sc_in_bits.nd rfl (.inl rfl) pe_str)
    (pss_cons (ps_for (passes_of rfl) rfl (pi_range1 (by rfl) T.z_range (pa_cons (pv 1) pa_nil)) (pg_name (i := 3) sc_in_bits.nd rfl (.inl rfl))
    (pss_cons (ps_set (i := 2) sc_in_bits.nd rfl (.inl rfl) (pe_op op_add_str (pe_callTy call_str_int (by rfl) T.z_str b_str (pa_cons (pe_op op_mod (pv 0) pe_int) pa_nil)) (pv 2)))
    (pss_one (ps_set (i := 0) sc_in_bits.nd rfl (.inl rfl) (pe_op op_fdiv (pv 0) pe_int)))))
    (pss_one (ps_ret (pv 2))))), ?_⟩
    refine ⟨_, rfl, _, rfl, by omega, by omega, for_it w_range (fun i σ H' => H' = H ∧ ∃ t, σ = [some (.int ((n / 2 ^ i : Nat) : Int)), some (.int wd), some (.str (sb (bn n i))), t]) ⟨rfl, none, by rw [Nat.pow_zero, Nat.div_one, bn, ← sb_nil]; rfl⟩ (fun _ _ _ _ _ => trivial) ?_ ?_⟩
    · intro i x σ H1 H2 hi p hy
      obtain ⟨rfl, t, rfl⟩ := p
      obtain ⟨rfl, rfl⟩ := hy
      have h2 : (((n / 2 ^ i : Nat) : Int) % 2).natAbs.log2 < 1920 := by
        have : (((n / 2 ^ i : Nat) : Int) % 2).natAbs < 2 := by omega
        refine Nat.lt_of_le_of_lt (Nat.log2_le_self _) ?_
        omega
      have hi2 : i < wd := by omega
      refine ⟨_, rfl, _, _, rfl, rfl, (show (0 : Int) < 2 by decide), _, rfl, h2, _, rfl, _, _, rfl, rfl, ?_, ?_⟩
      · rw [str_bit, sb_len, sb_len, bn_len]
        exact Nat.le_trans (by show 1 + i ≤ 100001; omega) (by decide)
      · refine ⟨_, rfl, _, _, rfl, rfl, ⟨by decide, by decide⟩, rfl, some (.int (0 + i)), ?_⟩
        have e : (Str.ofString (toString (((n / 2 ^ i : Nat) : Int) % 2)) : Str) ++ sb (bn n i) = sb (bn n (i + 1)) := by
          rw [str_bit, sb_app, bn_front]
          rfl
        have e2 : (((n / 2 ^ i : Nat) : Int) / 2) = ((n / 2 ^ (i + 1) : Nat) : Int) := by
          rw [Nat.pow_succ, ← Nat.div_div_eq_div_mul]
          omega
        rw [e, ← e2]
        rfl
    · intro σ H1 p
      obtain ⟨rfl, t, rfl⟩ := p
      exact ⟨_, rfl, by rw [Int.toNat_natCast] at *; exact q⟩
def spOutOf : Sp := fun vs H Q _ => ∃ l : List Bool, vs = [.str (sb l)] ∧ l.length ≤ 100000 ∧ Q (.int (vb l)) H
theorem ok_out_of (T : Tx K mg) : OkN P w K mg base ("out_of", none) 1 ["bits"] spOutOf := by
  refine T.F_out_of.ok sc_out_of (fun vs H Q E h => ?_) (fun cdv A outer s H vs Q E hr h => ?_)
  · obtain ⟨l, rfl, _⟩ := h
    rfl
  · obtain ⟨l, rfl, hl, q⟩ := h
    refine ⟨_, (pss_cons (ps_set (i := 1) sc_out_of.nd rfl (.inl rfl) pe_int)
    (pss_cons (ps_for (passes_of rfl) rfl (pi_str (pv 0)) (pg_name (i := 2) sc_out_of.nd rfl (.inl rfl))
    (pss_one (ps_set (i := 1) sc_out_of.nd rfl (.inl rfl) (pe_op op_add (pe_op op_mul pe_int (pv 1)) (pe_callTy call_int_str (by rfl) T.z_int b_int (pa_cons (pv 2) pa_nil))))))
    (pss_one (ps_ret (pv 1))))), ?_⟩
    refine ⟨_, rfl, _, rfl, for_it w_str (fun i σ H' => H' = H ∧ ∃ t, σ = [some (.str (sb l)), some (.int (vb (l.take i))), t]) ⟨rfl, none, rfl⟩ (fun _ _ _ _ _ => trivial) ?_ ?_⟩
    · intro i x σ H1 H2 hi p hy
      obtain ⟨rfl, t, rfl⟩ := p
      obtain ⟨rfl, c, hc, rfl⟩ := hy
      rw [List.getElem?_map] at hc
      obtain ⟨b, hb, rfl⟩ := Option.map_eq_some_iff.mp hc
      refine ⟨_, rfl, _, _, rfl, rfl, .inl ⟨by decide, by decide⟩, _, rfl, _, _, rfl, int_bit b, by rw [S_len]; exact (by decide : 1 ≤ 640), _, _, rfl, rfl, rfl, some (.str (S [bc b])), ?_⟩
      have e : l.take (i + 1) = l.take i ++ [b] := by rw [List.take_add_one, hb]; rfl
      rw [e, vb_snoc]
      show [_, some (V.int (2 * (vb (l.take i) : Int) + (b.toNat : Int))), _] = [_, some (V.int ((2 * vb (l.take i) + b.toNat : Nat) : Int)), _]
      rw [Int.natCast_add, Int.natCast_mul]
      rfl
    · intro σ H1 p
      obtain ⟨rfl, t, rfl⟩ := p
      rw [List.length_map, List.take_length]
      exact ⟨_, rfl, q⟩
def spNeedBits (K : PySem.W.Frag) : Sp := fun vs H Q E => ∃ z : Str, vs = [.str z] ∧ z.length ≤ 100000 ∧ (IsB z → ∀ H', Xs (tK K) H H' → Q .non H') ∧ (¬ IsB z → ∀ H', Xs (tK K) H H' → E (.ref (He.ga K "BadBits")) none H')
theorem ok_need_bits (T : Tx K mg) : OkN P w K mg base ("need_bits", none) 1 ["bits"] (spNeedBits K) := by
  refine T.F_need_bits.ok sc_need_bits (fun vs H Q E h => ?_) (fun cdv A outer s H vs Q E hr h => ?_)
  · obtain ⟨z, rfl, _⟩ := h
    rfl
  · obtain ⟨z, rfl, hl, q1, q2⟩ := h
    obtain ⟨l, rfl⟩ : ∃ l, z = S l := ⟨_, S_of z⟩
    rw [S_len] at hl
    refine ⟨_, (pss_one (ps_if (pt_not (pt_val (pe_callB (cr_allK (K := K) rfl rfl) (by rfl) T.z_all b_all (pa_cons (pe_lc (own := [("sign", 1)]) rfl sc_need_bits.nd (pi_str (pv 0)) (blkOk_by (N := N_need_bits) (sc := defScope s_need_bits) (by decide +kernel)) (fun _ _ _ _ _ => (pg_name (i := 1) sc_need_bits.nd rfl (.inl rfl))) (fun _ _ _ _ _ => pts_nil) (fun _ _ _ _ _ => (pe_cmpR op_in_sign (pv 1) pe_str (by rfl)))) pa_nil))))
    (pss_one (ps_rz T.x_BadBits rfl (by decide))) pss_nil)), ?_⟩
    refine ⟨_, rfl, _, rfl, fun D hD => lcPs (T := tK K) w_str hD (by omega) (fun _ _ => trivial) (fun i => .bl (decide (l.getD i 0 ∈ [48, 49]))) ?_ fun H1 x1 e1 => ?_⟩
    · intro i x H1 hi hy x1 Q q
      obtain ⟨c, hc, rfl⟩ := hy
      refine ⟨_, rfl, _, _, rfl, rfl, ?_⟩
      rw [signs01]
      have e : l.getD i 0 = c := by rw [List.getD_eq_getElem?_getD, hc]; rfl
      rw [e] at q
      exact q H1 Xs.refl
    · refine ⟨D, (List.range l.length).map fun i => decide (l.getD i 0 ∈ [48, 49]), rfl, SqL.of (by rw [e1, List.map_map]; rfl), _, rfl, ?_⟩
      rw [all_bits]
      refine ite2 (fun e => ?_) (fun e => ?_)
      · exact q2 (fun hb => by rw [isB_iff] at hb; rw [decide_eq_true hb] at e; cases e) H1 x1
      · refine q1 ((isB_iff l).mpr (by by_cases h : ∀ c ∈ l, c = 48 ∨ c = 49; exact h; rw [decide_eq_false h] at e; exact absurd rfl e)) H1 x1
def spPack (K : PySem.W.Frag) : Sp := fun vs H Q E => ∃ (a : Addr) (ns : List Int) (wd : Nat), vs = [.ref a, .int wd] ∧ SqL K H a (ns.map .int) ∧ ns.length ≤ 1000 ∧ wd ≤ 1000 ∧
  ((∀ n ∈ ns, 0 ≤ n ∧ nd n.toNat ≤ wd) → ∀ H', Xs (tK K) H H' → Q (.str (sb (pk (ns.map Int.toNat) wd))) H') ∧ ((∃ n ∈ ns, n < 0 ∨ wd < nd n.toNat) → ∀ H', Xs (tK K) H H' → E (.ref (He.ga K "BadNumber")) none H')
theorem ok_pack (T : Tx K mg) : OkN P w K mg base ("pack", none) 2 ["numbers", "wide"] (spPack K) := by
  refine T.F_pack.ok sc_pack (fun vs H Q E h => ?_) (fun cdv A outer s H vs Q E hr h => ?_)
  · obtain ⟨a, ns, wd, rfl, _⟩ := h
    rfl
  · obtain ⟨a, ns, wd, rfl, ha, hl, hw, q1, q2⟩ := h
    refine ⟨_, (pss_cons (ps_for (passes_of rfl) rfl (pi_listK (K := K) rfl (pv 0)) (pg_name (i := 2) sc_pack.nd rfl (.inl rfl))
    (pss_one (ps_if (pt_cmpR op_gt (pe_callS (ok_needs T) (hr.mono (by decide)) (by rfl) T.g_needs T.F_needs.kp T.B_needs psE (pa_cons (pv 2) pa_nil)) (pv 1) (nomark _))
    (pss_one (ps_rz T.x_BadNumber rfl (by decide))) pss_nil)))
    (pss_one (ps_ret (pe_joinK (K := K) rfl pe_str (pe_lc (own := [("number", 2)]) rfl sc_pack.nd (pi_listK (K := K) rfl (pv 0)) (blkOk_by (N := N_pack) (sc := defScope s_pack) (by decide +kernel)) (fun _ _ _ _ _ => (pg_name (i := 2) sc_pack.nd rfl (.inl rfl))) (fun _ _ _ _ _ => pts_nil) (fun _ _ _ _ _ => (pe_callS (ok_in_bits T) (hr.mono (by decide)) (by rfl) T.g_in_bits T.F_in_bits.kp T.B_in_bits ps0 (pa_cons (pv 2) (pa_cons (pv 1) pa_nil))))) (by rfl) (by rfl) (by rfl))))), ?_⟩
    refine ⟨_, rfl, a, rfl, ⟨_, ha⟩, for_it w_list (fun i σ H' => H' = H ∧ (∀ n ∈ ns.take i, 0 ≤ n ∧ nd n.toNat ≤ wd) ∧ ∃ t, σ = [some (.ref a), some (.int wd), t]) ⟨rfl, fun n hn => by simp at hn, none, rfl⟩ (fun i σ H' _ p => p.1 ▸ ha) ?_ ?_⟩
    · intro i x σ H1 H2 hi p hy
      obtain ⟨rfl, hp, t, rfl⟩ := p
      obtain ⟨rfl, hx⟩ := hy
      rw [List.getElem?_map] at hx
      obtain ⟨n, hn, rfl⟩ := Option.map_eq_some_iff.mp hx
      have mem : n ∈ ns := List.mem_of_getElem? hn
      refine ⟨_, rfl, n, rfl, fun h0 => ?_, fun h0 => q2 ⟨n, mem, .inl h0⟩ _ Xs.refl⟩
      refine ⟨_, rfl, _, _, rfl, rfl, _, rfl, ite2 (fun e => ?_) (fun e => ?_)⟩
      · exact q2 ⟨n, mem, .inr (by simp only [decide_eq_true_eq] at e; omega)⟩ _ Xs.refl
      · refine ⟨rfl, fun m hm => ?_, _, rfl⟩
        rw [List.take_add_one, hn, List.mem_append] at hm
        rcases hm with hm | hm
        · exact hp m hm
        · have em : m = n := by simpa using hm
          subst em
          exact ⟨h0, by simp only [decide_eq_true_eq] at e; omega⟩
    · intro σ H1 p
      obtain ⟨rfl, hp, t, rfl⟩ := p
      rw [List.length_map, List.take_length] at hp
      refine ⟨⟨_, rfl⟩, _, rfl, a, rfl, ⟨_, ha⟩, fun D hD => lcPs (T := tK K) w_list hD (by rw [List.length_map]; omega) (fun H' x => x.seq ha) (fun i => .str (sb (bn (ns.getD i 0).toNat wd))) ?_ fun H2 x2 e2 => ?_⟩
      · intro i x H2 hi hy x2 Q q
        rw [List.getElem?_map] at hy
        obtain ⟨n, hn, rfl⟩ := Option.map_eq_some_iff.mp hy
        have e : ns.getD i 0 = n := by rw [List.getD_eq_getElem?_getD, hn]; rfl
        rw [e] at q
        refine ⟨_, rfl, _, rfl, n.toNat, wd, ?_, by omega, q _ Xs.refl⟩
        rw [Int.toNat_of_nonneg (hp n (List.mem_of_getElem? hn)).1]
      · have e3 : ((List.range (ns.map V.int).length).map fun i => V.str (sb (bn (ns.getD i 0).toNat wd))) = (((ns.map Int.toNat).map fun n => bn n wd).map sb).map V.str := by
          rw [List.length_map, List.map_map, List.map_map, List.map_map]
          refine List.ext_getElem (by simp) fun i h1 h2 => ?_
          simp at h1 h2
          simp [List.getD_eq_getElem?_getD, List.getElem?_eq_getElem h1]
        refine ⟨S [], D, ((ns.map Int.toNat).map fun n => bn n wd).map sb, rfl, rfl, .inl (SqL.of (by rw [e2, e3])), ?_, ?_⟩
        · rw [sum_len, S_len]
          have e4 : (((ns.map Int.toNat).map fun n => bn n wd).map List.length).sum = ns.length * wd := by
            rw [← List.length_flatten, show ((ns.map Int.toNat).map fun n => bn n wd).flatten = pk (ns.map Int.toNat) wd from rfl, pk_len, List.length_map]
          rw [e4]
          have := Nat.mul_le_mul hl hw
          simp
          omega
        · rw [show S [] = sb [] from rfl, join_sb]
          exact q1 hp H2 x2
def Good (z : Str) (wd : Nat) : Prop := IsB z ∧ (z.length = 0 ∨ (wd ≠ 0 ∧ z.length % wd = 0))
theorem good_pk (ns : List Nat) (wd : Nat) : Good (sb (pk ns wd)) wd := by
  refine ⟨⟨_, rfl⟩, ?_⟩
  rw [sb_len, pk_len]
  rcases Nat.eq_zero_or_pos wd with h | h
  · exact .inl (by rw [h]; rfl)
  · exact .inr ⟨by omega, Nat.mul_mod_left _ _⟩
theorem unpk (ns : List Nat) (wd : Nat) (h : ∀ n ∈ ns, nd n ≤ wd) : ((List.range ((pk ns wd).length / wd)).map fun i => V.int (vb (part (pk ns wd) wd i))) = ((ns.take (ns.length * min 1 wd)).map Int.ofNat).map .int := by
  rw [pk_len]
  rcases Nat.eq_zero_or_pos wd with h0 | h0
  · subst h0
    simp
  · rw [Nat.mul_div_cancel _ h0, show min 1 wd = 1 by omega, Nat.mul_one, List.take_length, List.map_map]
    refine List.ext_getElem (by simp) fun i h1 h2 => ?_
    simp only [List.getElem_map, List.getElem_range]
    have h3 : i < ns.length := by simpa using h1
    rw [part_pk ns wd i _ (List.getElem?_eq_getElem h3), bn_vb_lt ((nd_le _ _).mp (h _ (List.getElem_mem h3)))]
    rfl
def spNeedPacked (K : PySem.W.Frag) : Sp := fun vs H Q E => ∃ (z : Str) (wd : Nat), vs = [.str z, .int wd] ∧ z.length ≤ 100000 ∧ (Good z wd → ∀ H', Xs (tK K) H H' → Q .non H') ∧ (¬ Good z wd → ∀ H', Xs (tK K) H H' → E (.ref (He.ga K "BadBits")) none H')
theorem ok_need_packed (T : Tx K mg) : OkN P w K mg base ("need_packed", none) 2 ["bits", "wide"] (spNeedPacked K) := by
  refine T.F_need_packed.ok sc_need_packed (fun vs H Q E h => ?_) (fun cdv A outer s H vs Q E hr h => ?_)
  · obtain ⟨z, wd, rfl, _⟩ := h
    rfl
  · obtain ⟨z, wd, rfl, hl, q1, q2⟩ := h
    refine ⟨_, (pss_cons (ps_expr (pe_callS (ok_need_bits T) (hr.mono (by decide)) (by rfl) T.g_need_bits T.F_need_bits.kp T.B_need_bits psE (pa_cons (pv 0) pa_nil)))
    (pss_one (ps_if (PW.pt (pw_and (pt_cmpR op_gt (pe_callB call_len_str (by rfl) T.z_len b_len (pa_cons (pv 0) pa_nil)) pe_int (nomark _)) (pw_and1 (PW.pt (pw_or (pt_cmpR op_eq (pv 1) pe_int (nomark _)) (pw_or1 (pt_cmpR op_gt (pe_op op_mod (pe_callB call_len_str (by rfl) T.z_len b_len (pa_cons (pv 0) pa_nil)) (pv 1)) pe_int (nomark _))))))))
    (pss_one (ps_rz T.x_BadBits rfl (by decide))) pss_nil))), ?_⟩
    have hz : z.length ≤ sizeLine := Nat.le_trans hl (by decide)
    refine ⟨_, rfl, z, rfl, hl, fun hb H1 x1 => ?_, fun hb H1 x1 => q2 (fun g => hb g.1) H1 x1⟩
    refine ⟨_, rfl, _, rfl, hz, _, _, rfl, rfl, _, rfl, ite2 (fun e => ?_) (fun e => ?_)⟩
    · simp only [decide_eq_true_eq] at e
      refine ⟨_, rfl, rfl, _, rfl, ite2 (fun e2 => ?_) (fun e2 => ?_)⟩
      · refine iteT (q2 (fun g => ?_) H1 x1)
        have e3 : (wd : Int) = 0 := V.int.inj (of_decide_eq_true e2)
        rcases g.2 with h | h <;> omega
      · have e3 : ¬ (wd : Int) = 0 := fun h => e2 (decide_eq_true (congrArg V.int h))
        refine ⟨_, rfl, _, rfl, hz, _, rfl, _, _, rfl, rfl, (show (0 : Int) < wd by omega), _, _, rfl, rfl, _, rfl, ite2 (fun e4 => ?_) (fun e4 => ?_)⟩
        · refine q2 (fun g => ?_) H1 x1
          simp only [decide_eq_true_eq] at e4
          rcases g.2 with h | h <;> omega
        · refine q1 ⟨hb, .inr ⟨by omega, ?_⟩⟩ H1 x1
          simp only [decide_eq_true_eq] at e4
          omega
    · simp only [decide_eq_true_eq] at e
      exact iteF (q1 ⟨hb, .inl (by omega)⟩ H1 x1)
def spNumberAt (K : PySem.W.Frag) : Sp := fun vs H Q E => ∃ (z : Str) (wd : Nat) (i : Int), vs = [.str z, .int wd, .int i] ∧ z.length ≤ 100000 ∧ wd ≤ 1000 ∧
  (∀ l (j : Nat), z = sb l → Good z wd → i = j → (j + 1) * wd ≤ l.length → l ≠ [] → ∀ H', Xs (tK K) H H' → Q (.int (vb (part l wd j))) H') ∧ (¬ Good z wd → ∀ H', Xs (tK K) H H' → E (.ref (He.ga K "BadBits")) none H') ∧
  (Good z wd → (i < 0 ∨ (z.length : Int) < (i + 1) * wd ∨ z.length = 0) → ∀ H', Xs (tK K) H H' → E (.ref (He.ga K "BadPlace")) none H')
theorem ok_number_at (T : Tx K mg) : OkN P w K mg base ("number_at", none) 3 ["bits", "wide", "place"] (spNumberAt K) := by
  refine T.F_number_at.ok sc_number_at (fun vs H Q E h => ?_) (fun cdv A outer s H vs Q E hr h => ?_)
  · obtain ⟨z, wd, i, rfl, _⟩ := h
    rfl
  · obtain ⟨z, wd, i, rfl, hl, hw, q1, q2, q3⟩ := h
    refine ⟨_, (pss_cons (ps_expr (pe_callS (ok_need_packed T) (hr.mono (by decide)) (by rfl) T.g_need_packed T.F_need_packed.kp T.B_need_packed psE (pa_cons (pv 0) (pa_cons (pv 1) pa_nil))))
    (pss_cons (ps_if (PW.pt (pw_or (pt_not (pt_cmpR op_le pe_int (pv 2) (nomark _))) (pw_or (pt_cmpR op_gt (pe_op op_mul (pe_op op_add (pv 2) pe_int) (pv 1)) (pe_callB call_len_str (by rfl) T.z_len b_len (pa_cons (pv 0) pa_nil)) (nomark _)) (pw_or1 (pt_cmpR op_eq (pv 0) pe_str (nomark _))))))
    (pss_one (ps_rz T.x_BadPlace rfl (by decide))) pss_nil)
    (pss_one (ps_ret (pe_callS (ok_out_of T) (hr.mono (by decide)) (by rfl) T.g_out_of T.F_out_of.kp T.B_out_of psE (pa_cons (pe_slice sl_str (pv 0) (po_some (pe_op op_mul (pv 2) (pv 1))) (po_some (pe_op op_add (pe_op op_mul (pv 2) (pv 1)) (pv 1)))) pa_nil)))))), ?_⟩
    refine ⟨_, rfl, _, rfl, z, wd, rfl, hl, fun g H1 x1 => ?_, fun g H1 x1 => q2 g H1 x1⟩
    obtain ⟨l, rfl⟩ := g.1
    have hz : (sb l).length ≤ sizeLine := Nat.le_trans hl (by decide)
    have bad : (i < 0 ∨ ((sb l).length : Int) < (i + 1) * wd ∨ (sb l).length = 0) → E (.ref (He.ga K "BadPlace")) none H1 := fun h => q3 g h H1 x1
    refine ⟨_, rfl, _, _, rfl, rfl, _, rfl, ite2 (fun e => ?_) (fun e => ?_)⟩
    · simp only [Bool.not_eq_true', decide_eq_false_iff_not] at e
      exact iteT (bad (.inl (by omega)))
    · simp only [Bool.not_eq_true', decide_eq_false_iff_not] at e
      refine ⟨_, rfl, _, _, rfl, rfl, _, rfl, _, _, rfl, rfl, .inr ⟨by omega, by omega⟩, _, rfl, _, rfl, hz, _, _, rfl, rfl, _, rfl, ite2 (fun e2 => ?_) (fun e2 => ?_)⟩
      · simp only [decide_eq_true_eq] at e2
        exact iteT (bad (.inr (.inl e2)))
      · simp only [decide_eq_true_eq] at e2
        refine ⟨_, rfl, rfl, _, rfl, ite2 (fun e3 => ?_) (fun e3 => ?_)⟩
        · refine bad (.inr (.inr ?_))
          have e4 := V.str.inj (of_decide_eq_true e3)
          rw [e4]
          decide +kernel
        · obtain ⟨j, rfl⟩ : ∃ j : Nat, i = j := ⟨i.toNat, by omega⟩
          have hne : l ≠ [] := fun h => e3 (by rw [h, sb_nil]; exact decide_eq_true rfl)
          have hle : (j + 1) * wd ≤ l.length := by
            rw [sb_len] at e2
            have : (((j + 1) * wd : Nat) : Int) ≤ (l.length : Int) := by rw [Int.natCast_mul, Int.natCast_add]; exact Int.not_lt.mp e2
            omega
          refine ⟨_, rfl, ⟨_, rfl, _, rfl, _, _, rfl, rfl, .inr ⟨by omega, by omega⟩, _, rfl, ⟨_, rfl, _, rfl, _, _, rfl, rfl, .inr ⟨by omega, by omega⟩, _, rfl, _, _, rfl, rfl, _, rfl, sb l, rfl, hz, part l wd j, ?_, ?_, q1 l j rfl g rfl hle hne H1 x1⟩⟩⟩
          · show [V.str (cutS (sb l) (some ((j : Int) * (wd : Int))) (some ((j : Int) * (wd : Int) + (wd : Int))))] = _
            rw [← Int.natCast_mul, ← Int.natCast_add, cut_sb]
            rfl
          · unfold part
            rw [List.length_drop, List.length_take]
            rw [sb_len] at hl
            omega
end
end Tw

set_option maxHeartbeats 4000000
namespace Tw
open PySem PySem.Spec PyProof.Rows L2 LamX
def spDrawn : Sp := fun vs H Q _ => ∃ c k : Int, vs = [.int c, .int k] ∧ 0 ≤ k ∧ k ≤ 1000000 ∧ Q (.int (dr c k)) H
section
variable {P : Program} {w : World} {K : PySem.W.Frag} {mg : Str → Option Value} {base : Heap}
theorem ok__law_drawn (T : Tx K mg) : OkN P w K mg base ("_law_drawn", none) 1 ["_law_cell_here", "_law_k"] spDrawn := by
  refine T.F__law_drawn.ok sc__law_drawn (fun vs H Q E h => ?_) (fun cdv A outer s H vs Q E hr h => ?_)
  · obtain ⟨c, k, rfl, _⟩ := h
    rfl
  · obtain ⟨c, k, rfl, h0, hk, q⟩ := h
    refine ⟨_, (pss_cons (ps_set (i := 2) sc__law_drawn.nd rfl (.inl rfl) (pe_op op_mod (pe_op op_add (pe_op op_mul (pv 0) pe_int) (pe_op op_mul (pe_op op_add (pv 1) pe_int) pe_int)) pe_int))
    (pss_cons (ps_set (i := 2) sc__law_drawn.nd rfl (.inl rfl) (pe_op op_mod (pe_op op_mulW (pv 2) (pv 2)) pe_int))
    (pss_cons (ps_set (i := 2) sc__law_drawn.nd rfl (.inl rfl) (pe_op op_mulW (pe_op op_mulW (pe_op op_add (pe_op op_mod (pv 2) pe_int) pe_int) (pe_op op_add (pe_op op_fdivW (pv 2) pe_int) pe_int)) (pv 2)))
    (pss_one (ps_ret (pe_op op_mod (pv 2) pe_int)))))), ?_⟩
    refine ⟨_, rfl, _, _, rfl, rfl, .inr ⟨by decide, by decide⟩, _, rfl, _, _, rfl, rfl, _, _, rfl, rfl, .inr ⟨by decide, by decide⟩, _, _, rfl, rfl, _, _, rfl, rfl, (show (0 : Int) < pA by decide), ?_⟩
    refine ⟨_, rfl, _, rfl, _, _, rfl, rfl, wide_mul (a := 129) (b := 129) (dr1_abs c k) (dr1_abs c k) (by decide) (by decide) (by decide), _, _, rfl, rfl, (show (0 : Int) < pB by decide), ?_⟩
    refine ⟨_, rfl, _, _, rfl, rfl, (show (0 : Int) < pC by decide), _, _, rfl, rfl, _, rfl, _, _, rfl, rfl, (wide_div (b := 64) (by decide) (by decide) (by decide) (by decide)), _, _, rfl, rfl, _, _, rfl, rfl, ?_, _, rfl, _, _, rfl, rfl, ?_, ?_⟩
    · exact wide_mul (a := 65) (b := 129) (dr2_a c k) (dr2_b c k) (by decide) (by decide) (by decide)
    · exact wide_mul (a := 194) (b := 129) (wide_lt (a := 65) (b := 129) (dr2_a c k) (dr2_b c k)) (dr2_abs c k) (by decide) (by decide) (by decide)
    exact ⟨_, rfl, _, _, rfl, rfl, (show (0 : Int) < pA by decide), q⟩
def spCell (K : PySem.W.Frag) : Sp := fun vs H Q _ => ∃ (a : Addr) (ns : List Int) (k : Nat), vs = [.ref a, .int k] ∧ SqL K H a (ns.map .int) ∧ k ≤ 1000000 ∧ ns.length ≤ 1000000 ∧ ∀ H', Xt (tK K) H H' → Q (.int (cellV ns k)) H'
theorem ok__law_cell (T : Tx K mg) : OkN P w K mg base ("_law_cell", none) 1 ["_law_script", "_law_k"] (spCell K) := by
  refine T.F__law_cell.ok sc__law_cell (fun vs H Q E h => ?_) (fun cdv A outer s H vs Q E hr h => ?_)
  · obtain ⟨a, ns, k, rfl, _⟩ := h
    rfl
  · obtain ⟨a, ns, k, rfl, ha, hk, hl, q⟩ := h
    refine ⟨_, (pss_cons (ps_if (pt_cmpR (op_eqDK (K := K) rfl hr.units) (pv 0) (pe_lst pa_nil) (nomark _))
    (pss_one (ps_ret (pe_op op_mul (pv 1) pe_int))) pss_nil)
    (pss_one (ps_ret (pe_op op_add (pe_ix (ix_listK (K := K) rfl) (pv 0) (pe_op op_mod (pv 1) (pe_callB (call_len_seqK (K := K) rfl) (by rfl) T.z_len b_len (pa_cons (pv 0) pa_nil))) (fun _ _ => rfl)) (pe_op op_mul (pe_op op_fdivW (pv 1) (pe_callB (call_len_seqK (K := K) rfl) (by rfl) T.z_len b_len (pa_cons (pv 0) pa_nil))) pe_int))))), ?_⟩
    refine ⟨_, rfl, by decide, fun p hp => ?_⟩
    have x : Xt (tK K) H (upd H p (.lst [])) := Xt.new hp
    refine eqD_of (d := .list (ns.map .int)) (e := .list (([] : List Int).map .int)) (dp_ints (x.seq ha)) (dp_ints (SqL.of (by rw [upd_same]; rfl))) sh_ints sh_ints ?_
    rw [eqv_ints]
    unfold cellV at q
    by_cases h0 : ns = []
    · rw [if_pos h0] at q
      rw [decide_eq_true h0]
      exact ⟨_, rfl, iteT ⟨_, rfl, _, _, rfl, rfl, .inr ⟨by decide, by decide⟩, q _ x⟩⟩
    · rw [if_neg h0] at q
      rw [decide_eq_false h0]
      have hn : 0 < ns.length := List.length_pos_iff.mpr h0
      have em : (k : Int) % ((ns.map V.int).length : Int) = ((k % ns.length : Nat) : Int) := by rw [List.length_map]; exact (Int.natCast_emod _ _).symm
      have ed : (k : Int) / ((ns.map V.int).length : Int) = ((k / ns.length : Nat) : Int) := by rw [List.length_map]; exact (Int.natCast_ediv _ _).symm
      have hm : k % ns.length < ns.length := Nat.mod_lt _ hn
      refine ⟨_, rfl, iteF ⟨_, rfl, _, rfl, _, rfl, _, _, rfl, .inl (x.seq ha), _, _, rfl, rfl, ?_, _, _, _, .int (ns.getD (k % ns.length) 0), rfl, rfl, x.seq ha, ?_, _, rfl, _, rfl, _, _, rfl, .inl (x.seq ha), _, _, rfl, rfl, ?_, _, _, rfl, rfl, .inr ⟨by decide, by decide⟩, _, _, rfl, rfl, ?_⟩⟩
      · show (0 : Int) < ((ns.map V.int).length : Int)
        rw [List.length_map]
        omega
      · rw [em]
        refine atI_nat ?_
        rw [List.getElem?_map, List.getD_eq_getElem?_getD, List.getElem?_eq_getElem hm]
        rfl
      · refine wide_div (b := 20) ?_ ?_ (by decide) (by decide)
        · rw [List.length_map]
          omega
        · rw [List.length_map]
          omega
      · rw [ed]
        exact q _ x
end
end Tw

set_option maxHeartbeats 4000000
namespace Tw
open PySem PySem.Spec PyProof.Rows L2 LamX
section
variable {P : Program} {w : World} {K : PySem.W.Frag} {mg : Str → Option Value} {base : Heap}
theorem isi_list {H : Hp} {v : V} {o : Ob} {Q : VK} {σ : L2.St} (h : ObAt K H v o) (q1 : ∀ cs, o = .li cs → Q (.bl true) H) (q2 : o = .no → Q (.bl false) H) : tCons (tC (.ty "list")) tNil σ H fun xs H2 => rIsi K (v :: xs) H2 Q := by
  show rIsi K [v, .ty "list"] H Q
  cases h with
  | li e hs => exact ⟨_, _, _, _, true, rfl, .ty "list", .base (.lst e), by rfl, q1 _ rfl⟩
  | no h =>
    have q2 := q2 rfl
    cases h with
    | non => exact ⟨_, _, _, _, false, rfl, .ty "list", .base .non, by rfl, q2⟩
    | int i => exact ⟨_, _, _, _, false, rfl, .ty "list", .base (.int i), by rfl, q2⟩
    | str z => exact ⟨_, _, _, _, false, rfl, .ty "list", .base (.str z), by rfl, q2⟩
    | tup e => exact ⟨_, _, _, _, false, rfl, .ty "list", .base (.tup e), by rfl, q2⟩
    | dK e => exact ⟨_, _, _, _, false, rfl, .ty "list", .base (.dK e), by rfl, q2⟩
def sgV (s : List Bool) : List V := s.map fun b => .str (sb [b])
def spLBits (K : PySem.W.Frag) (n : Nat) : Sp := fun vs H Q E => ∃ (v : V) (o : Ob), vs = [v] ∧ ObAt K H v o ∧ isT o = true ∧ ht o < n ∧ (btT o).length ≤ 10000 ∧ ∀ H', Xs (tK K) H H' → Q (.str (sb (btT o))) H'
theorem ok__law_bits_of (T : Tx K mg) : ∀ n, OkN P w K mg base ("_law_bits_of", none) n ["_law_tree_here"] (spLBits K n)
  | 0 => ⟨fun vs H Q E h => by obtain ⟨v, o, rfl, _⟩ := h; rfl, fun A outer s H args us vs Q E _ _ _ _ h => by obtain ⟨v, o, _, _, _, h, _⟩ := h; omega⟩
  | n + 1 => by
    have ih := ok__law_bits_of T n
    refine T.F__law_bits_of.ok sc__law_bits_of (fun vs H Q E h => ?_) (fun cdv A outer s H vs Q E hr h => ?_)
    · obtain ⟨v, o, rfl, _⟩ := h
      rfl
    · obtain ⟨v, o, rfl, ho, hT, hn, hl, q⟩ := h
      refine ⟨_, (pss_cons (ps_set (i := 1) sc__law_bits_of.nd rfl (.inl rfl) (pe_lst (pa_cons pe_str pa_nil)))
    (pss_cons (ps_for (passes_of rfl) rfl (pi_listK (K := K) rfl (pv 0)) (pg_name (i := 2) sc__law_bits_of.nd rfl (.inl rfl))
    (pss_one (ps_expr (pe_bmK (K := K) rfl F.plainAttrs_list F.slot_list_append F.type_list_append mt_append (pv 1) (pa_cons (pe_callS ih (hr.mono (Nat.le_refl _)) (by rfl) T.g__law_bits_of T.F__law_bits_of.kp T.B__law_bits_of psE (pa_cons (pv 2) pa_nil)) pa_nil) (by rfl) (by rfl) (by rfl) (by rfl) (by rfl)))))
    (pss_one (ps_ret (pe_op op_add_str (pe_joinK (K := K) rfl pe_str (pv 1) (by rfl) (by rfl) (by rfl)) pe_str))))), ?_⟩
      cases ho with
      | no h => cases hT
      | li e hs =>
      rename_i a xs cs
      have hn : htL cs + 1 < n + 1 := hn
      have hT : isTL cs = true := hT
      have hl : (true :: (btL cs ++ [false])).length ≤ 10000 := hl
      rw [List.length_cons, List.length_append] at hl
      have hl : (btL cs).length + 2 ≤ 10000 := hl
      have hcnt := btL_count cs hT
      refine ⟨by exact (by decide : 1 ≤ sizeLine), fun p np => ?_⟩
      have np0 : Nw H p := .of np
      have x1 : Xs (tK K) H (upd H p (.lst [.str "1"])) := .new np
      have e1 : (upd H p (.lst [.str "1"])) p = some (.lst (([true] :: (cs.take 0).map btT).map fun l => .str (sb l))) := by
        rw [upd_same]
        exact congrArg (fun z => some (HO.lst [V.str z])) sb_1
      show tSeq _ _ _ _ (upd H p (.lst [.str "1"]))
      generalize upd H p (.lst [.str "1"]) = H1 at x1 e1 ⊢
      refine ⟨_, rfl, a, rfl, ⟨_, SqL.of (x1.lst e)⟩, for_it w_list (fun i σ H' => Xs (tK K) H H' ∧ H' p = some (.lst (([true] :: (cs.take i).map btT).map fun l => .str (sb l))) ∧ ∃ t, σ = [some (.ref a), some (.ref p), t]) ⟨x1, e1, none, rfl⟩ (fun _ _ _ _ p => SqL.of (p.1.lst e)) ?_ ?_⟩
      · intro i x σ Ha Hb hi hp hy
        obtain ⟨xa, ea, t, rfl⟩ := hp
        obtain ⟨rfl, hx⟩ := hy
        obtain ⟨c, hc, oc⟩ := hs.get hx
        have oc := xa.ob c _ oc
        have hcm := List.mem_of_getElem? hc
        have hh := ht_mem hcm
        have hb := btL_mem hcm
        have hlt := (List.getElem?_eq_some_iff.mp hc).1
        refine ⟨_, rfl, .inl ⟨rfl, _, SqL.of ea⟩, _, rfl, x, c, rfl, oc, isTL_mem hT hcm, by omega, by omega, fun H2 x2 => ?_⟩
        have ea := x2.lst ea
        refine ⟨p, _, _, rfl, rfl, ea, ?_, (xa.trans x2).mut np0 ea, ?_, some x, rfl⟩
        · rw [List.length_map, List.length_cons, List.length_map, List.length_take]
          exact Nat.lt_of_lt_of_le (show _ < 10001 by omega) (by decide)
        · rw [upd_same, List.take_add_one, hc]
          show some (HO.lst _) = some (HO.lst _)
          rw [List.map_append, List.map_cons, List.map_cons, List.map_append]
          rfl
      · intro σ Ha hp
        obtain ⟨xa, ea, t, rfl⟩ := hp
        rw [hs.len, List.take_length] at ea
        have efl : ([true] :: cs.map btT).flatten = true :: btL cs := by
          rw [List.flatten_cons, ← btL_eq]
          rfl
        refine ⟨⟨_, rfl⟩, _, rfl, S [], p, ([true] :: cs.map btT).map sb, rfl, rfl, .inl (SqL.of (by rw [ea, List.map_map]; rfl)), ?_, ?_⟩
        · rw [sum_len, S_len, ← List.length_flatten, efl, List.length_cons]
          simp only [List.length_nil, Nat.mul_zero, Nat.add_zero]
          omega
        · rw [show S [] = sb [] from rfl, join_sb, efl]
          refine ⟨_, _, rfl, rfl, ?_, ?_⟩
          · rw [sb_0, sb_len, sb_len, List.length_cons]
            exact Nat.le_trans (show (btL cs).length + 1 + 1 ≤ 10000 by omega) (by decide)
          · rw [sb_0, sb_app]
            exact q Ha xa
def spNeedTree (K : PySem.W.Frag) : Sp := fun vs H Q E => ∃ (z : Str), vs = [.str z] ∧ z.length ≤ 100000 ∧ (∀ l, z = sb l → okT l → l.length ≤ 2000 → ∀ H', Xs (tK K) H H' → Q .non H') ∧ ((∀ l, z = sb l → okT l → 2000 < l.length) → ∀ H', Xs (tK K) H H' → E (.ref (He.ga K "BadBits")) none H')
theorem ok_need_tree (T : Tx K mg) : OkN P w K mg base ("need_tree", none) 2 ["bits"] (spNeedTree K) := by
  refine T.F_need_tree.ok sc_need_tree (fun vs H Q E h => ?_) (fun cdv A outer s H vs Q E hr h => ?_)
  · obtain ⟨z, rfl, _⟩ := h
    rfl
  · obtain ⟨z, rfl, hz, q1, q2⟩ := h
    refine ⟨_, (pss_cons (ps_expr (pe_callS (ok_need_bits T) (hr.mono (by decide)) (by rfl) T.g_need_bits T.F_need_bits.kp T.B_need_bits psE (pa_cons (pv 0) pa_nil)))
    (pss_cons (ps_set (i := 1) sc_need_tree.nd rfl (.inl rfl) pe_int)
    (pss_cons (ps_for (passes_of rfl) rfl (pi_enumSK (K := K) rfl (by rfl) T.z_enumerate (pa_cons (pv 0) pa_nil) (by rfl)) (pg_tupK (K := K) (n := 2) rfl rfl (pgs_cons (pg_name (i := 2) sc_need_tree.nd rfl (.inl rfl)) (pgs_cons (pg_name (i := 3) sc_need_tree.nd rfl (.inl rfl)) pgs_nil)) (by rfl) (by rfl))
    (pss_cons (ps_set (i := 1) sc_need_tree.nd rfl (.inl rfl) (pe_op op_sub (pe_op op_add (pv 1) (pe_op op_mul pe_int (pe_callTy call_int_str (by rfl) T.z_int b_int (pa_cons (pv 3) pa_nil)))) pe_int))
    (pss_one (ps_if (PW.pt (pw_or (pt_cmpR op_gt (pv 1) (pe_glob (v := .int _) (by rfl) T.c_MOST_DEEP.choose_spec ⟨_, rfl⟩) (nomark _)) (pw_or1 (PW.pt (pw_and (pt_cmpR op_lt (pv 1) pe_int (nomark _)) (pw_and1 (pt_cmpR op_lt (pv 2) (pe_op op_sub (pe_callB call_len_str (by rfl) T.z_len b_len (pa_cons (pv 0) pa_nil)) pe_int) (nomark _))))))))
    (pss_one (ps_rz T.x_BadBits rfl (by decide))) pss_nil))))
    (pss_one (ps_if (PW.pt (pw_or (pt_cmpR op_ne (pv 1) pe_int (nomark _)) (pw_or (pt_cmpR op_eq (pv 0) pe_str (nomark _)) (pw_or1 (pt_cmpR op_gt (pe_callB call_len_str (by rfl) T.z_len b_len (pa_cons (pv 0) pa_nil)) (pe_op op_mul pe_int (pe_glob (v := .int _) (by rfl) T.c_MOST_NODES.choose_spec ⟨_, rfl⟩)) (nomark _))))))
    (pss_one (ps_rz T.x_BadBits rfl (by decide))) pss_nil))))), ?_⟩
    refine ⟨_, rfl, z, rfl, hz, fun hb H1 x1 => ?_, fun hb H1 x1 => q2 (fun l e => absurd ⟨l, e⟩ hb) H1 x1⟩
    obtain ⟨l, rfl⟩ := hb
    have hl : l.length ≤ 100000 := by rw [sb_len] at hz; exact hz
    have hzl : (sb l).length ≤ sizeLine := Nat.le_trans hz (by decide)
    have bad : (okT l → 2000 < l.length) → ∀ H', Xs (tK K) H H' → E (.ref (He.ga K "BadBits")) none H' := fun h => q2 fun l' e => by rw [← sb_inj e]; exact h
    have ll : (l.map bc).length = l.length := List.length_map ..
    refine ⟨_, rfl, _, rfl, for_it w_enumS (fun i σ H' => Xs (tK K) H H' ∧ (∀ j, j ≤ i → dp (l.take j) ≤ 200) ∧ (∀ j, 0 < j → j ≤ i → j < l.length → 1 ≤ dp (l.take j)) ∧ ∃ t u, σ = [some (.str (sb l)), some (.int (dp (l.take i))), t, u]) ⟨x1, fun j hj => by rw [show j = 0 by omega]; exact (by decide : (0 : Int) ≤ 200), fun j h1 h2 => by omega, none, none, rfl⟩ (fun _ _ _ _ _ => trivial) ?_ ?_⟩
    · intro i x σ Ha Hb hi hp hy
      obtain ⟨xa, h1, h2, t, u, rfl⟩ := hp
      obtain ⟨Ta, c, rfl, hn, rfl, hc⟩ := hy
      rw [List.getElem?_map] at hc
      obtain ⟨b, hb, rfl⟩ := Option.map_eq_some_iff.mp hc
      have xb := xa.trans (.new (o := .tup [.int (i : Nat), .str (S [bc b])]) hn)
      have hlt := (List.getElem?_eq_some_iff.mp hb).1
      have ed : dp (l.take (i + 1)) = dp (l.take i) + 2 * (b.toNat : Int) - 1 := by rw [List.take_add_one, hb]; exact dp_snoc _ _
      refine ⟨Ta, _, rfl, .inl (.inl (upd_same ..)), rfl, _, _, rfl, _, _, rfl, rfl, ?_⟩
      refine ⟨_, rfl, _, rfl, _, _, rfl, int_bit b, by rw [S_len]; exact (by decide : 1 ≤ 640), _, _, rfl, rfl, .inl ⟨by decide, by decide⟩, _, _, rfl, rfl, _, _, rfl, rfl, ?_⟩
      show gName 1 (V.int (dp (l.take i) + 2 * (b.toNat : Int) - 1)) _ _ _
      rw [← ed]
      have next : dp (l.take (i + 1)) ≤ 200 → (i + 1 < l.length → 1 ≤ dp (l.take (i + 1))) → (∀ j, j ≤ i + 1 → dp (l.take j) ≤ 200) ∧ (∀ j, 0 < j → j ≤ i + 1 → j < l.length → 1 ≤ dp (l.take j)) := fun n1 n2 => by
        refine ⟨fun j hj => ?_, fun j hj0 hj hjl => ?_⟩
        · by_cases e : j = i + 1
          · rw [e]; exact n1
          · exact h1 j (by omega)
        · by_cases e : j = i + 1
          · rw [e] at hjl ⊢; exact n2 hjl
          · exact h2 j hj0 (by omega) hjl
      refine ⟨_, rfl, _, _, rfl, rfl, _, rfl, ite2 (fun h3 => ?_) (fun h3 => ?_)⟩
      · have h3 := of_decide_eq_true h3
        refine iteT (bad (fun ok => ?_) _ xb)
        have := ok.top (i + 1) (by omega)
        omega
      · have h3 : dp (l.take (i + 1)) ≤ 200 := by simp only [decide_eq_true_eq] at h3; omega
        refine ⟨_, rfl, _, _, rfl, rfl, _, rfl, ite2 (fun h4 => ?_) (fun h4 => ?_)⟩
        · have h4 := of_decide_eq_true h4
          refine ⟨_, rfl, _, rfl, _, rfl, hzl, _, _, rfl, rfl, _, _, rfl, rfl, _, rfl, ite2 (fun h5 => ?_) (fun h5 => ?_)⟩
          · have h5 := of_decide_eq_true h5
            rw [sb_len] at h5
            refine bad (fun ok => ?_) _ xb
            have := ok.mid (i + 1) (by omega) (by omega)
            omega
          · simp only [decide_eq_true_eq, sb_len] at h5
            obtain ⟨n1, n2⟩ := next h3 (by omega)
            exact ⟨xb, n1, n2, some (.int (i : Nat)), some (.str (S [bc b])), rfl⟩
        · simp only [decide_eq_true_eq] at h4
          obtain ⟨n1, n2⟩ := next h3 (by omega)
          exact iteF ⟨xb, n1, n2, some (.int (i : Nat)), some (.str (S [bc b])), rfl⟩
    · intro σ Ha hp
      obtain ⟨xa, h1, h2, t, u, rfl⟩ := hp
      rw [ll, List.take_length] at *
      refine ⟨_, rfl, rfl, _, rfl, ite2 (fun h3 => ?_) (fun h3 => ?_)⟩
      · refine iteT (bad (fun ok => ?_) _ xa)
        rw [ok.fin] at h3
        simp at h3
      have h3 : dp l = 0 := by
        by_cases e : dp l = 0
        · exact e
        · exact absurd (by rw [decide_eq_false (fun z => e (V.int.inj z))]; rfl) h3
      refine ⟨_, rfl, rfl, _, rfl, ite2 (fun h4 => ?_) (fun h4 => ?_)⟩
      · refine iteT (bad (fun ok => ?_) _ xa)
        have h4 := V.str.inj (of_decide_eq_true h4)
        exact absurd (sb_inj (h4.trans sb_nil)) ok.ne
      have hne : l ≠ [] := fun z => h4 (decide_eq_true (by rw [z, sb_nil]))
      refine ⟨_, rfl, _, rfl, hzl, _, _, rfl, rfl, .inl ⟨by decide, by decide⟩, _, _, rfl, rfl, _, rfl, ite2 (fun h5 => ?_) (fun h5 => ?_)⟩
      · have h5 := of_decide_eq_true h5
        rw [sb_len] at h5
        exact bad (fun _ => by omega) _ xa
      · simp only [decide_eq_true_eq, sb_len] at h5
        exact q1 l rfl ⟨hne, fun i hi hil => h2 i hi (by omega) hil, h3, h1⟩ (by omega) Ha xa
end
end Tw

set_option maxHeartbeats 4000000
namespace Tw
open PySem PySem.Spec PyProof.Rows L2 LamX
section
variable {P : Program} {w : World} {K : PySem.W.Frag} {mg : Str → Option Value} {base : Heap}
/-! ### a row -/
def cts (l : List Bool) : List Nat := (List.range (l.length / 32)).map fun j => cn true l ((j + 1) * 32)
def rowF (l : List Bool) : List (Str × V) := [("own", .str (sb l)), ("wide", .int (nd l.length)), ("whole_blocks", .int ((l.length / 32 : Nat) : Int)), ("counts", .str (sb (pk (cts l) (nd l.length))))]
def RowAt (K : PySem.W.Frag) (H : Hp) (r : Addr) (l : List Bool) (n : Int) : Prop := l.length ≤ 4096 ∧ ∃ dx, H r = some (.ins (He.ga K "Row") dx (rowF l ++ sn n))
theorem RowAt.xs {H H' : Hp} {r : Addr} {l : List Bool} {n : Int} {T : List (Addr × Str)} (h : RowAt K H r l n) (x : Xs T H H') : RowAt K H' r l n := ⟨h.1, h.2.choose, x.same h.2.choose_spec fun ps z => by cases z⟩
theorem RowAt.xt {H H' : Hp} {r : Addr} {l : List Bool} {n : Int} {T : List (Addr × Str)} (h : RowAt K H r l n) (x : Xt T H H') : ∃ n', RowAt K H' r l n' := by
  obtain ⟨hl, dx, e⟩ := h
  obtain ⟨n', e2⟩ := x.insSeen e
  exact ⟨n', hl, dx, e2⟩
theorem RowAt.see {H : Hp} {r : Addr} {l : List Bool} {n n' : Int} {T : List (Addr × Str)} {dx : Addr} (h : H r = some (.ins (He.ga K "Row") dx (rowF l ++ sn n))) (hl : l.length ≤ 4096) : Xt T H (upd H r (.ins (He.ga K "Row") dx (rowF l ++ sn n'))) ∧ RowAt K (upd H r (.ins (He.ga K "Row") dx (rowF l ++ sn n'))) r l n' := ⟨.see trivial h, hl, dx, upd_same ..⟩
theorem own_len {l : List Bool} (h : l.length ≤ 4096) : (sb l).length ≤ sizeLine := by rw [sb_len]; exact Nat.le_trans h (by decide)
def spNeed (K : PySem.W.Frag) : Sp := fun vs H Q E => ∃ (r : Addr) (b : Bool), vs = [.ref r, .bl b] ∧ (b = true → Q .non H) ∧ (b = false → E (.ref (He.ga K "BadPlace")) none H)
theorem ok_Row_need (T : Tx K mg) : OkN P w K mg base ("Row", some "need") 1 ["self", "good"] (spNeed K) := by
  refine T.F_Row_need.ok sc_Row_need (fun vs H Q E h => ?_) (fun cdv A outer s H vs Q E hr h => ?_)
  · obtain ⟨r, b, rfl, _⟩ := h
    rfl
  · obtain ⟨r, b, rfl, q1, q2⟩ := h
    refine ⟨_, (pss_one (ps_if (pt_not (pt_val (pv 1)))
    (pss_one (ps_rz T.x_BadPlace rfl (by decide))) pss_nil)), ?_⟩
    cases b with
    | true => exact ⟨_, rfl, true, rfl, iteF (q1 rfl)⟩
    | false => exact ⟨_, rfl, false, rfl, iteT (q2 rfl)⟩
def spSize (K : PySem.W.Frag) : Sp := fun vs H Q E => ∃ (r : Addr) (l : List Bool) (n : Int), vs = [.ref r] ∧ RowAt K H r l n ∧ Q (.int l.length) H
theorem ok_Row_size (T : Tx K mg) : OkN P w K mg base ("Row", some "size") 1 ["self"] (spSize K) := by
  refine T.F_Row_size.ok sc_Row_size (fun vs H Q E h => ?_) (fun cdv A outer s H vs Q E hr h => ?_)
  · obtain ⟨r, l, n, rfl, _⟩ := h
    rfl
  · obtain ⟨r, l, n, rfl, ⟨hl, dx, e⟩, q⟩ := h
    refine ⟨_, (pss_one (ps_ret (pe_callB call_len_str (by rfl) T.z_len b_len (pa_cons (pe_fldK (K := K) rfl (pv 0) (by rfl)) pa_nil)))), ?_⟩
    refine ⟨_, rfl, r, _, dx, _, _, rfl, e, T.k_Row, T.n_Row_own, rfl, _, rfl, own_len hl, ?_⟩
    rw [sb_len]
    exact q
def spBits (K : PySem.W.Frag) : Sp := fun vs H Q E => ∃ (r : Addr) (l : List Bool) (n : Int), vs = [.ref r] ∧ RowAt K H r l n ∧ Q (.str (sb l)) H
theorem ok_Row_bits (T : Tx K mg) : OkN P w K mg base ("Row", some "bits") 1 ["self"] (spBits K) := by
  refine T.F_Row_bits.ok sc_Row_bits (fun vs H Q E h => ?_) (fun cdv A outer s H vs Q E hr h => ?_)
  · obtain ⟨r, l, n, rfl, _⟩ := h
    rfl
  · obtain ⟨r, l, n, rfl, ⟨hl, dx, e⟩, q⟩ := h
    refine ⟨_, (pss_one (ps_ret (pe_fldK (K := K) rfl (pv 0) (by rfl)))), ?_⟩
    exact ⟨_, rfl, r, _, dx, _, _, rfl, e, T.k_Row, T.n_Row_own, rfl, q⟩
def spLook (K : PySem.W.Frag) : Sp := fun vs H Q E => ∃ (r : Addr) (l : List Bool) (n : Int) (p : Nat) (b : Bool), vs = [.ref r, .int p] ∧ RowAt K H r l n ∧ l[p]? = some b ∧ ∀ H', Xt (tK K) H H' → RowAt K H' r l (n + 1) → Q (.int b.toNat) H'
theorem ok_Row_look (T : Tx K mg) : OkN P w K mg base ("Row", some "look") 1 ["self", "place"] (spLook K) := by
  refine T.F_Row_look.ok sc_Row_look (fun vs H Q E h => ?_) (fun cdv A outer s H vs Q E hr h => ?_)
  · obtain ⟨r, l, n, p, b, rfl, _⟩ := h
    rfl
  · obtain ⟨r, l, n, p, b, rfl, ⟨hl, dx, e⟩, hb, q⟩ := h
    refine ⟨_, (pss_cons (ps_fld (pv 0) (pe_op op_add (pe_fldK (K := K) rfl (pv 0) (by rfl)) pe_int) rfl)
    (pss_one (ps_ret (pe_callTy call_int_str (by rfl) T.z_int b_int (pa_cons (pe_ix ix_str (pe_fldK (K := K) rfl (pv 0) (by rfl)) (pv 1) (fun _ _ => rfl)) pa_nil))))), ?_⟩
    refine ⟨_, rfl, r, _, dx, _, _, rfl, e, T.k_Row, T.n_Row_seen, rfl, _, _, rfl, rfl, _, rfl, r, _, dx, _, rfl, e, T.k_Row, T.n_Row_seen, by exact (by decide : 5 < 1000), ?_⟩
    obtain ⟨x1, r1⟩ := RowAt.see (T := tK K) (n' := n + 1) e hl
    have e1 := upd_same (H := H) (a := r) (o := .ins (He.ga K "Row") dx (rowF l ++ sn (n + 1)))
    refine ⟨_, rfl, r, _, dx, _, _, rfl, e1, T.k_Row, T.n_Row_own, rfl, _, rfl, sb l, _, bc b, rfl, rfl, own_len hl, atI_nat ?_, _, _, rfl, int_bit b, by exact (by decide : 1 ≤ 640), q _ x1 r1⟩
    show (l.map bc)[p]? = _
    rw [List.getElem?_map, hb]
    rfl
def spBit (K : PySem.W.Frag) : Sp := fun vs H Q E => ∃ (r : Addr) (l : List Bool) (n p : Int), vs = [.ref r, .int p] ∧ RowAt K H r l n ∧ (∀ (j : Nat) b, p = j → l[j]? = some b → ∀ H', Xt (tK K) H H' → RowAt K H' r l (n + 1) → Q (.int b.toNat) H') ∧ ((p < 0 ∨ l.length ≤ p) → E (.ref (He.ga K "BadPlace")) none H)
theorem ok_Row_bit (T : Tx K mg) : OkN P w K mg base ("Row", some "bit") 2 ["self", "place"] (spBit K) := by
  refine T.F_Row_bit.ok sc_Row_bit (fun vs H Q E h => ?_) (fun cdv A outer s H vs Q E hr h => ?_)
  · obtain ⟨r, l, n, p, rfl, _⟩ := h
    rfl
  · obtain ⟨r, l, n, p, rfl, ⟨hl, dx, e⟩, q1, q2⟩ := h
    refine ⟨_, (pss_cons (ps_expr (pe_meth (dvs := []) (pv 0) T.k_Row T.M_Row_need (ok_Row_need T) (hr.mono (by decide)) T.B_Row_need .nil psP (pa_cons (pe_chain op_le op_lt pe_int (pv 1) (pe_callB call_len_str (by rfl) T.z_len b_len (pa_cons (pe_fldK (K := K) rfl (pv 0) (by rfl)) pa_nil))) pa_nil)))
    (pss_one (ps_ret (pe_meth (dvs := []) (pv 0) T.k_Row T.M_Row_look (ok_Row_look T) (hr.mono (by decide)) T.B_Row_look .nil psP (pa_cons (pv 1) pa_nil))))), ?_⟩
    refine ⟨_, rfl, r, dx, _, rfl, e, rfl, _, rfl, _, _, rfl, rfl, _, rfl, ite2 (fun h0 => ?_) (fun h0 => ?_)⟩
    · simp only [decide_eq_true_eq] at h0
      refine ⟨_, rfl, r, _, dx, _, _, rfl, e, T.k_Row, T.n_Row_own, rfl, _, rfl, own_len hl, _, _, rfl, rfl, r, _, rfl, fun h1 => ?_, fun h1 => ?_⟩
      · have h1 := of_decide_eq_true h1
        rw [sb_len] at h1
        obtain ⟨j, rfl⟩ : ∃ j : Nat, p = j := ⟨p.toNat, by omega⟩
        have hj : j < l.length := by omega
        have hb : l[j]? = some l[j] := List.getElem?_eq_getElem hj
        exact ⟨_, rfl, r, dx, _, rfl, e, rfl, _, rfl, r, l, n, j, l[j], rfl, ⟨hl, dx, e⟩, hb, fun H' x' r' => q1 j _ rfl hb H' x' r'⟩
      · have h1 := of_decide_eq_false h1
        rw [sb_len] at h1
        exact q2 (.inr (by omega))
    · simp only [decide_eq_true_eq] at h0
      exact ⟨r, false, rfl, fun z => (nomatch z), fun _ => q2 (.inl (by omega))⟩
theorem cts_get {l : List Bool} {j : Nat} (h : j < l.length / 32) : (cts l)[j]? = some (cn true l ((j + 1) * 32)) := by
  unfold cts
  rw [List.getElem?_map, List.getElem?_range h]
  rfl
theorem cts_len (l : List Bool) : (cts l).length = l.length / 32 := by unfold cts; rw [List.length_map, List.length_range]
theorem nd_len {l : List Bool} (h : l.length ≤ 4096) : nd l.length ≤ 13 := (nd_le _ _).mpr (by omega)
def spUpTo (K : PySem.W.Frag) : Sp := fun vs H Q E => ∃ (r : Addr) (l : List Bool) (n : Int) (c : Nat), vs = [.ref r, .int c] ∧ RowAt K H r l n ∧ c ≤ l.length / 32 ∧ ∀ H', Xs (tK K) H H' → Q (.int (cn true l (c * 32))) H'
theorem ok_Row_up_to (T : Tx K mg) : OkN P w K mg base ("Row", some "up_to") 4 ["self", "block"] (spUpTo K) := by
  refine T.F_Row_up_to.ok sc_Row_up_to (fun vs H Q E h => ?_) (fun cdv A outer s H vs Q E hr h => ?_)
  · obtain ⟨r, l, n, c, rfl, _⟩ := h
    rfl
  · obtain ⟨r, l, n, c, rfl, ⟨hl, dx, e⟩, hc, q⟩ := h
    refine ⟨_, (pss_cons (ps_if (pt_cmpR op_eq (pv 1) pe_int (nomark _))
    (pss_one (ps_ret pe_int)) pss_nil)
    (pss_one (ps_ret (pe_callS (ok_number_at T) (hr.mono (by decide)) (by rfl) T.g_number_at T.F_number_at.kp T.B_number_at psE (pa_cons (pe_fldK (K := K) rfl (pv 0) (by rfl)) (pa_cons (pe_fldK (K := K) rfl (pv 0) (by rfl)) (pa_cons (pe_op op_sub (pv 1) pe_int) pa_nil))))))), ?_⟩
    refine ⟨_, rfl, rfl, _, rfl, ite2 (fun h0 => ?_) (fun h0 => ?_)⟩
    · have h0 := V.int.inj (of_decide_eq_true h0)
      have h0 : c = 0 := by omega
      subst h0
      exact q H .refl
    · have h0 : c ≠ 0 := fun z => h0 (decide_eq_true (by rw [z]; rfl))
      have hw := nd_len hl
      have hlen : (sb (pk (cts l) (nd l.length))).length = l.length / 32 * nd l.length := by rw [sb_len, pk_len, cts_len]
      have hsz : l.length / 32 * nd l.length ≤ 100000 := Nat.le_trans (Nat.mul_le_mul (show l.length / 32 ≤ 128 by omega) hw) (by decide)
      have hl0 : 0 < l.length := by omega
      have hnd : 0 < nd l.length := (nd_lo2 hl0)
      have hj : (c - 1) < l.length / 32 := by omega
      have hle : (c - 1 + 1) * nd l.length ≤ l.length / 32 * nd l.length := Nat.mul_le_mul_right _ hj
      have hpos : 0 < l.length / 32 * nd l.length := Nat.mul_pos (by omega) hnd
      refine ⟨_, rfl, r, _, dx, _, _, rfl, e, T.k_Row, T.n_Row_counts, rfl, _, rfl, r, _, dx, _, _, rfl, e, T.k_Row, T.n_Row_wide, rfl, _, rfl, _, _, rfl, rfl, _, nd l.length, (c : Int) - 1, rfl, by rw [hlen]; exact hsz, by omega, fun l' j e1 g ej hj2 hne H' x' => ?_, fun g => absurd (good_pk _ _) g, fun _ hb => ?_⟩
      · have e1 := sb_inj e1
        subst e1
        have ej : j = c - 1 := by omega
        subst ej
        rw [part_pk _ _ _ _ (cts_get hj), bn_vb_lt, show c - 1 + 1 = c by omega]
        · exact q H' x'
        · refine (nd_le _ _).mp (Nat.le_trans ?_ (Nat.le_refl _))
          refine (nd_le _ _).mpr ?_
          have h1 : cn true l ((c - 1 + 1) * 32) ≤ (c - 1 + 1) * 32 := cn_le
          have h2 : l.length < 2 ^ nd l.length := (nd_le _ _).mp (Nat.le_refl _)
          omega
      · exfalso
        rw [hlen] at hb
        have e2 : ((c : Int) - 1 + 1) * ((nd l.length : Nat) : Int) = (((c - 1 + 1) * nd l.length : Nat) : Int) := by
          rw [Int.natCast_mul]
          congr 1
          omega
        rw [e2] at hb
        omega
def spOnes (K : PySem.W.Frag) : Sp := fun vs H Q E => ∃ (r : Addr) (l : List Bool) (n p : Int), vs = [.ref r, .int p] ∧ RowAt K H r l n ∧ (∀ (j : Nat), p = j → j ≤ l.length → ∀ H', Xt (tK K) H H' → RowAt K H' r l (n + (j % 32 : Nat)) → Q (.int (cn true l j)) H') ∧ ((p < 0 ∨ l.length < p) → E (.ref (He.ga K "BadPlace")) none H)
theorem ok_Row_ones (T : Tx K mg) : OkN P w K mg base ("Row", some "ones") 5 ["self", "place"] (spOnes K) := by
  refine T.F_Row_ones.ok sc_Row_ones (fun vs H Q E h => ?_) (fun cdv A outer s H vs Q E hr h => ?_)
  · obtain ⟨r, l, n, p, rfl, _⟩ := h
    rfl
  · obtain ⟨r, l, n, p, rfl, ⟨hl, dx, e⟩, q1, q2⟩ := h
    refine ⟨_, (pss_cons (ps_expr (pe_meth (dvs := []) (pv 0) T.k_Row T.M_Row_need (ok_Row_need T) (hr.mono (by decide)) T.B_Row_need .nil psP (pa_cons (pe_chain op_le op_le pe_int (pv 1) (pe_callB call_len_str (by rfl) T.z_len b_len (pa_cons (pe_fldK (K := K) rfl (pv 0) (by rfl)) pa_nil))) pa_nil)))
    (pss_cons (ps_set (i := 2) sc_Row_ones.nd rfl (.inl rfl) (pe_op op_fdivW (pv 1) (pe_glob (v := .int _) (by rfl) T.c_BLOCK.choose_spec ⟨_, rfl⟩)))
    (pss_one (ps_ret (pe_op op_add (pe_meth (dvs := []) (pv 0) T.k_Row T.M_Row_up_to (ok_Row_up_to T) (hr.mono (by decide)) T.B_Row_up_to .nil psP (pa_cons (pv 2) pa_nil)) (pe_callB (cr_sumK (K := K) rfl rfl) (by rfl) T.z_sum b_sum (pa_cons (pe_lc (own := [("at", 3)]) rfl sc_Row_ones.nd (pi_range2 (by rfl) T.z_range (pa_cons (pe_op op_mul (pv 2) (pe_glob (v := .int _) (by rfl) T.c_BLOCK.choose_spec ⟨_, rfl⟩)) (pa_cons (pv 1) pa_nil))) (blkOk_by (N := N_Row_ones) (sc := defScope s_Row_ones) (by decide +kernel)) (fun _ _ _ _ _ => (pg_name (i := 3) sc_Row_ones.nd rfl (.inl rfl))) (fun _ _ _ _ _ => pts_nil) (fun _ _ _ _ _ => (pe_meth (dvs := []) (pv 0) T.k_Row T.M_Row_look (ok_Row_look T) (hr.mono (by decide)) T.B_Row_look .nil psP0 (pa_cons (pv 3) pa_nil)))) pa_nil))))))), ?_⟩
    refine ⟨_, rfl, r, dx, _, rfl, e, rfl, _, rfl, _, _, rfl, rfl, _, rfl, ite2 (fun h0 => ?_) (fun h0 => ?_)⟩
    · simp only [decide_eq_true_eq] at h0
      refine ⟨_, rfl, r, _, dx, _, _, rfl, e, T.k_Row, T.n_Row_own, rfl, _, rfl, own_len hl, _, _, rfl, rfl, r, _, rfl, fun h1 => ?_, fun h1 => ?_⟩
      · have h1 := of_decide_eq_true h1
        rw [sb_len] at h1
        obtain ⟨j, rfl⟩ : ∃ j : Nat, p = j := ⟨p.toNat, by omega⟩
        have hj : j ≤ l.length := by omega
        refine ⟨_, rfl, _, _, rfl, rfl, wide_div (b := 6) (by decide) (by decide) (by decide) (by decide), ?_⟩
        have ed : (j : Int) / 32 = ((j / 32 : Nat) : Int) := by omega
        show gName 2 (V.int ((j : Int) / 32)) _ _ _
        rw [ed]
        refine ⟨_, rfl, r, dx, _, rfl, e, rfl, _, rfl, r, l, n, j / 32, rfl, ⟨hl, dx, e⟩, by omega, fun H1 x1 => ?_⟩
        have r1 := RowAt.xs ⟨hl, dx, e⟩ x1
        have hne : ∀ D, H1 D = none → r ≠ D := fun D hD z => by
          obtain ⟨_, dx1, e1⟩ := r1
          rw [z, hD] at e1
          cases e1
        refine ⟨_, rfl, _, _, rfl, rfl, .inl ⟨by omega, by omega⟩, _, rfl, _, _, rfl, ⟨by omega, by omega, by omega, by omega⟩, fun D hD => lcI (lo := True) (T := tK K) (fun i H' => RowAt K H' r l (n + (i : Nat))) w_range hD (by omega) (fun _ _ _ _ => trivial) (by rw [show n + ((0 : Nat) : Int) = n by omega]; exact r1) (fun i H' xs _ h => ⟨h.1, h.2.choose, by rw [upd_ne (hne D hD)]; exact h.2.choose_spec⟩) (fun i => .int ((l.getD (j / 32 * 32 + i) false).toNat : Nat)) ?_ fun H2 x2 r2 e2 => ?_⟩
        · intro i x H2 hi hy x2 r2 Q q
          have ex : ((j / 32 : Nat) : Int) * 32 + (i : Int) = ((j / 32 * 32 + i : Nat) : Int) := by omega
          rw [ex] at hy
          subst hy
          have hb : l[j / 32 * 32 + i]? = some l[j / 32 * 32 + i] := List.getElem?_eq_getElem (by omega)
          have eg : l.getD (j / 32 * 32 + i) false = l[j / 32 * 32 + i] := by rw [List.getD_eq_getElem?_getD, hb]; rfl
          rw [eg] at q
          obtain ⟨_, dx2, e2⟩ := r2
          refine ⟨_, rfl, r, dx2, _, rfl, e2, rfl, _, rfl, r, l, n + (i : Nat), _, _, rfl, ⟨hl, dx2, e2⟩, hb, fun H3 x3 r3 => q H3 x3 ?_⟩
          rw [show n + ((i + 1 : Nat) : Int) = n + (i : Int) + 1 by omega]
          exact r3
        · have ek : ((j : Int) - ((j / 32 : Nat) : Int) * 32).toNat = j % 32 := by omega
          rw [ek] at e2 r2
          refine ⟨D, (List.range (j % 32)).map fun i => (((l.getD (j / 32 * 32 + i) false).toNat : Nat) : Int), rfl, SqL.of (by rw [e2, List.map_map]; rfl), _, _, rfl, rfl, ?_⟩
          rw [sum_bits l (j / 32 * 32) (j % 32) (by omega), show j / 32 * 32 + j % 32 = j by omega]
          show Q (.int (((cn true l (j / 32 * 32) : Nat) : Int) + (((cn true l j : Nat) : Int) - ((cn true l (j / 32 * 32) : Nat) : Int)))) H2
          rw [show ((cn true l (j / 32 * 32) : Nat) : Int) + (((cn true l j : Nat) : Int) - ((cn true l (j / 32 * 32) : Nat) : Int)) = ((cn true l j : Nat) : Int) by omega]
          exact q1 j rfl hj H2 (x1.up.trans x2) r2
      · have h1 := of_decide_eq_false h1
        rw [sb_len] at h1
        exact q2 (.inr (by omega))
    · simp only [decide_eq_true_eq] at h0
      exact ⟨r, false, rfl, fun z => (nomatch z), fun _ => q2 (.inl (by omega))⟩
def spNoughts (K : PySem.W.Frag) : Sp := fun vs H Q E => ∃ (r : Addr) (l : List Bool) (n p : Int), vs = [.ref r, .int p] ∧ RowAt K H r l n ∧ (∀ (j : Nat), p = j → j ≤ l.length → ∀ H', Xt (tK K) H H' → RowAt K H' r l (n + (j % 32 : Nat)) → Q (.int (cn false l j)) H') ∧ ((p < 0 ∨ l.length < p) → E (.ref (He.ga K "BadPlace")) none H)
theorem ok_Row_noughts (T : Tx K mg) : OkN P w K mg base ("Row", some "noughts") 6 ["self", "place"] (spNoughts K) := by
  refine T.F_Row_noughts.ok sc_Row_noughts (fun vs H Q E h => ?_) (fun cdv A outer s H vs Q E hr h => ?_)
  · obtain ⟨r, l, n, p, rfl, _⟩ := h
    rfl
  · obtain ⟨r, l, n, p, rfl, ⟨hl, dx, e⟩, q1, q2⟩ := h
    refine ⟨_, (pss_one (ps_ret (pe_op op_sub (pv 1) (pe_meth (dvs := []) (pv 0) T.k_Row T.M_Row_ones (ok_Row_ones T) (hr.mono (by decide)) T.B_Row_ones .nil psP (pa_cons (pv 1) pa_nil))))), ?_⟩
    refine ⟨_, rfl, _, rfl, r, dx, _, rfl, e, rfl, _, rfl, r, l, n, p, rfl, ⟨hl, dx, e⟩, fun j ej hj H' x' r' => ⟨_, _, rfl, rfl, ?_⟩, q2⟩
    subst ej
    have := cn_two (l := l) hj
    show Q (.int ((j : Int) - (cn true l j : Nat))) H'
    rw [show (j : Int) - ((cn true l j : Nat) : Int) = ((cn false l j : Nat) : Int) by omega]
    exact q1 j rfl hj H' x' r'
def spAhead (K : PySem.W.Frag) : Sp := fun vs H Q E => ∃ (r : Addr) (l : List Bool) (n : Int) (c : Nat) (b : Bool), vs = [.ref r, .int c, .int b.toNat] ∧ RowAt K H r l n ∧ c ≤ l.length / 32 ∧ ∀ H', Xs (tK K) H H' → Q (.int (cn b l (c * 32))) H'
theorem ok_Row_ahead (T : Tx K mg) : OkN P w K mg base ("Row", some "ahead") 5 ["self", "block", "sign"] (spAhead K) := by
  refine T.F_Row_ahead.ok sc_Row_ahead (fun vs H Q E h => ?_) (fun cdv A outer s H vs Q E hr h => ?_)
  · obtain ⟨r, l, n, c, b, rfl, _⟩ := h
    rfl
  · obtain ⟨r, l, n, c, b, rfl, ⟨hl, dx, e⟩, hc, q⟩ := h
    refine ⟨_, (pss_cons (ps_if (pt_cmpR op_eq (pv 2) pe_int (nomark _))
    (pss_one (ps_ret (pe_meth (dvs := []) (pv 0) T.k_Row T.M_Row_up_to (ok_Row_up_to T) (hr.mono (by decide)) T.B_Row_up_to .nil psP (pa_cons (pv 1) pa_nil)))) pss_nil)
    (pss_one (ps_ret (pe_op op_sub (pe_op op_mul (pv 1) (pe_glob (v := .int _) (by rfl) T.c_BLOCK.choose_spec ⟨_, rfl⟩)) (pe_meth (dvs := []) (pv 0) T.k_Row T.M_Row_up_to (ok_Row_up_to T) (hr.mono (by decide)) T.B_Row_up_to .nil psP (pa_cons (pv 1) pa_nil)))))), ?_⟩
    refine ⟨_, rfl, rfl, _, rfl, ite2 (fun h0 => ?_) (fun h0 => ?_)⟩
    · have h0 := V.int.inj (of_decide_eq_true h0)
      have hb : b = true := by cases b with
        | true => rfl
        | false => cases h0
      subst hb
      exact ⟨_, rfl, r, dx, _, rfl, e, rfl, _, rfl, r, l, n, c, rfl, ⟨hl, dx, e⟩, hc, q⟩
    · have hb : b = false := by cases b with
        | true => exact absurd (decide_eq_true rfl) h0
        | false => rfl
      subst hb
      refine ⟨_, rfl, _, _, rfl, rfl, .inl ⟨by omega, by omega⟩, _, rfl, r, dx, _, rfl, e, rfl, _, rfl, r, l, n, c, rfl, ⟨hl, dx, e⟩, hc, fun H' x' => ⟨_, _, rfl, rfl, ?_⟩⟩
      have := cn_two (l := l) (p := c * 32) (by omega)
      show Q (.int ((c : Int) * 32 - (cn true l (c * 32) : Nat))) H'
      rw [show (c : Int) * 32 - ((cn true l (c * 32) : Nat) : Int) = ((cn false l (c * 32) : Nat) : Int) by omega]
      exact q H' x'
def spFound (K : PySem.W.Frag) : Sp := fun vs H Q E => ∃ (r : Addr) (l : List Bool) (n a : Int) (b : Bool), vs = [.ref r, .int a, .int b.toNat] ∧ RowAt K H r l n ∧ (∀ (j : Nat) (m : Int), a = j → ∀ H', Xt (tK K) H H' → RowAt K H' r l m → n ≤ m → m ≤ n + 32 → Q (on (pos b l)[j]?) H') ∧ (a < 0 → E (.ref (He.ga K "BadPlace")) none H)
theorem ok_Row_found_at (T : Tx K mg) : OkN P w K mg base ("Row", some "found_at") 6 ["self", "number", "sign"] (spFound K) := by
  refine T.F_Row_found_at.ok sc_Row_found_at (fun vs H Q E h => ?_) (fun cdv A outer s H vs Q E hr h => ?_)
  · obtain ⟨r, l, n, a, b, rfl, _⟩ := h
    rfl
  · obtain ⟨r, l, n, a, b, rfl, ⟨hl, dx, e⟩, q1, q2⟩ := h
    refine ⟨_, (pss_cons (ps_expr (pe_meth (dvs := []) (pv 0) T.k_Row T.M_Row_need (ok_Row_need T) (hr.mono (by decide)) T.B_Row_need .nil psP (pa_cons (pe_cmpR op_ge (pv 1) pe_int (nomark _)) pa_nil)))
    (pss_cons (ps_set (i := 3) sc_Row_found_at.nd rfl (.inl rfl) pe_int)
    (pss_cons (ps_set (i := 4) sc_Row_found_at.nd rfl (.inl rfl) (pe_fldK (K := K) rfl (pv 0) (by rfl)))
    (pss_cons (ps_while (passes_of rfl) (pt_cmpR op_lt (pv 3) (pv 4) (nomark _))
    (pss_cons (ps_set (i := 5) sc_Row_found_at.nd rfl (.inl rfl) (pe_op op_fdiv (pe_op op_add (pe_op op_add (pv 3) (pv 4)) pe_int) pe_int))
    (pss_one (ps_if (pt_cmpR op_le (pe_meth (dvs := []) (pv 0) T.k_Row T.M_Row_ahead (ok_Row_ahead T) (hr.mono (by decide)) T.B_Row_ahead .nil psP (pa_cons (pv 5) (pa_cons (pv 2) pa_nil))) (pv 1) (nomark _))
    (pss_one (ps_set (i := 3) sc_Row_found_at.nd rfl (.inl rfl) (pv 5))) (pss_one (ps_set (i := 4) sc_Row_found_at.nd rfl (.inl rfl) (pe_op op_sub (pv 5) pe_int)))))))
    (pss_cons (ps_set (i := 6) sc_Row_found_at.nd rfl (.inl rfl) (pe_op op_sub (pv 1) (pe_meth (dvs := []) (pv 0) T.k_Row T.M_Row_ahead (ok_Row_ahead T) (hr.mono (by decide)) T.B_Row_ahead .nil psP (pa_cons (pv 3) (pa_cons (pv 2) pa_nil)))))
    (pss_cons (ps_for (passes_of rfl) rfl (pi_range2 (by rfl) T.z_range (pa_cons (pe_op op_mul (pv 3) (pe_glob (v := .int _) (by rfl) T.c_BLOCK.choose_spec ⟨_, rfl⟩)) (pa_cons (pe_callB (call_min2 rfl) (by rfl) T.z_min b_min (pa_cons (pe_callB call_len_str (by rfl) T.z_len b_len (pa_cons (pe_fldK (K := K) rfl (pv 0) (by rfl)) pa_nil)) (pa_cons (pe_op op_mul (pe_op op_add (pv 3) pe_int) (pe_glob (v := .int _) (by rfl) T.c_BLOCK.choose_spec ⟨_, rfl⟩)) pa_nil))) pa_nil))) (pg_name (i := 7) sc_Row_found_at.nd rfl (.inl rfl))
    (pss_one (ps_if (pt_cmpR op_eq (pe_meth (dvs := []) (pv 0) T.k_Row T.M_Row_look (ok_Row_look T) (hr.mono (by decide)) T.B_Row_look .nil psP (pa_cons (pv 7) pa_nil)) (pv 2) (nomark _))
    (pss_cons (ps_if (pt_cmpR op_eq (pv 6) pe_int (nomark _))
    (pss_one (ps_ret (pv 7))) pss_nil)
    (pss_one (ps_set (i := 6) sc_Row_found_at.nd rfl (.inl rfl) (pe_op op_sub (pv 6) pe_int)))) pss_nil)))
    (pss_one (ps_ret pe_non)))))))), ?_⟩
    refine ⟨_, rfl, r, dx, _, rfl, e, rfl, _, rfl, _, _, rfl, rfl, r, _, rfl, fun h0 => ?_, fun h0 => q2 (by have := of_decide_eq_false h0; omega)⟩
    have h0 := of_decide_eq_true h0
    obtain ⟨j, rfl⟩ : ∃ j : Nat, a = j := ⟨a.toNat, by omega⟩
    refine ⟨_, rfl, r, _, dx, _, _, rfl, e, T.k_Row, T.n_Row_whole_blocks, rfl, ?_⟩
    refine ⟨fun m σ H' => ∃ (lo hi : Nat) (t5 t6 t7 : Option V), lo + m = hi ∧ σ = [some (.ref r), some (.int j), some (.int b.toNat), some (.int lo), some (.int hi), t5, t6, t7] ∧ Xs (tK K) H H' ∧ hi ≤ l.length / 32 ∧ cn b l (lo * 32) ≤ j ∧ (hi = l.length / 32 ∨ j < cn b l ((hi + 1) * 32)), ⟨l.length / 32, 0, l.length / 32, none, none, none, Nat.zero_add _, rfl, .refl, Nat.le_refl _, Nat.zero_le _, .inl rfl⟩, fun m σ H' hW => ?_⟩
    obtain ⟨lo, hi, t5, t6, t7, hm, rfl, x1, hh, hlo, hhi⟩ := hW
    have r1 := RowAt.xs ⟨hl, dx, e⟩ x1
    obtain ⟨_, dx1, e1⟩ := r1
    refine ⟨_, rfl, _, rfl, _, _, rfl, rfl, _, rfl, ite2 (fun h1 => ?_) (fun h1 => ?_)⟩
    · have h1 : lo < hi := by have := of_decide_eq_true h1; omega
      refine ⟨fun σ' H'' => ∃ m' < m, ∃ (lo hi : Nat) (t5 t6 t7 : Option V), lo + m' = hi ∧ σ' = [some (.ref r), some (.int j), some (.int b.toNat), some (.int lo), some (.int hi), t5, t6, t7] ∧ Xs (tK K) H H'' ∧ hi ≤ l.length / 32 ∧ cn b l (lo * 32) ≤ j ∧ (hi = l.length / 32 ∨ j < cn b l ((hi + 1) * 32)), fun _ _ h => h, ?_⟩
      obtain ⟨mid, hmid⟩ : ∃ mid : Nat, mid = (lo + hi + 1) / 2 := ⟨_, rfl⟩
      have emid : ((lo : Int) + (hi : Int) + 1) / 2 = (mid : Int) := by omega
      refine ⟨_, rfl, _, rfl, _, _, rfl, rfl, _, _, rfl, rfl, _, _, rfl, rfl, ⟨by decide, by decide⟩, ?_⟩
      show gName 5 (V.int (((lo : Int) + (hi : Int) + 1) / 2)) _ _ _
      rw [emid]
      refine ⟨_, rfl, r, dx1, _, rfl, e1, rfl, _, rfl, _, rfl, r, l, n, mid, b, rfl, ⟨hl, dx1, e1⟩, by omega, fun H2 x2 => ⟨_, rfl, _, _, rfl, rfl, _, rfl, ite2 (fun h2 => ?_) (fun h2 => ?_)⟩⟩
      · have h2 : cn b l (mid * 32) ≤ j := by have := of_decide_eq_true h2; omega
        exact ⟨_, rfl, hi - mid, by omega, mid, hi, _, t6, t7, by omega, rfl, x1.trans x2, hh, h2, hhi⟩
      · have h2 : j < cn b l (mid * 32) := by simp only [decide_eq_true_eq] at h2; omega
        refine ⟨_, rfl, _, _, rfl, rfl, mid - 1 - lo, by omega, lo, mid - 1, some (.int mid), t6, t7, by omega, ?_, x1.trans x2, by omega, hlo, .inr ?_⟩
        · rw [show ((mid - 1 : Nat) : Int) = (mid : Int) - 1 by omega]
          rfl
        · rw [show mid - 1 + 1 = mid by omega]
          exact h2
    · have h1 : lo = hi := by simp only [decide_eq_true_eq] at h1; omega
      subst h1
      refine ⟨_, rfl, _, rfl, r, dx1, _, rfl, e1, rfl, _, rfl, _, rfl, r, l, n, lo, b, rfl, ⟨hl, dx1, e1⟩, hh, fun H2 x2 => ⟨_, _, rfl, rfl, ?_⟩⟩
      have r2 := RowAt.xs ⟨hl, dx1, e1⟩ x2
      have x2 := x1.trans x2
      obtain ⟨_, dx2, e2⟩ := r2
      have emin : (if ((lo : Int) + 1) * 32 < (((sb l).length : Nat) : Int) then ((lo : Int) + 1) * 32 else (((sb l).length : Nat) : Int)) = ((min l.length ((lo + 1) * 32) : Nat) : Int) := by
        rw [sb_len]
        split <;> omega
      refine ⟨_, rfl, _, _, rfl, rfl, .inl ⟨by omega, by omega⟩, _, rfl, r, _, dx2, _, _, rfl, e2, T.k_Row, T.n_Row_own, rfl, _, rfl, own_len hl, _, rfl, _, _, rfl, rfl, _, _, rfl, rfl, .inl ⟨by omega, by omega⟩, _, _, rfl, _, _, rfl, ?_, ?_⟩
      · rw [emin]
        exact ⟨by omega, by omega, by omega, by omega⟩
      rw [emin]
      have ek : (((min l.length ((lo + 1) * 32) : Nat) : Int) - (lo : Int) * 32).toNat = min l.length ((lo + 1) * 32) - lo * 32 := by omega
      rw [ek]
      refine for_it w_range (fun i σ H' => Xt (tK K) H H' ∧ RowAt K H' r l (n + (i : Nat)) ∧ cn b l (lo * 32 + i) ≤ j ∧ ∃ t7, σ = [some (.ref r), some (.int j), some (.int b.toNat), some (.int lo), some (.int lo), t5, some (.int ((j : Int) - (cn b l (lo * 32 + i) : Nat))), t7]) ⟨x2.up, by rw [show n + ((0 : Nat) : Int) = n by omega]; exact ⟨hl, dx2, e2⟩, hlo, t7, rfl⟩ (fun _ _ _ _ _ => trivial) ?_ ?_
      · intro i x σ Ha Hb hi p hy
        obtain ⟨xa, ⟨_, dxa, ea⟩, hj, t7, rfl⟩ := p
        obtain ⟨rfl, rfl⟩ := hy
        have ex : ((lo : Int) * 32 + (i : Int)) = ((lo * 32 + i : Nat) : Int) := by omega
        rw [ex]
        have hp : lo * 32 + i < l.length := by omega
        have hb : l[lo * 32 + i]? = some l[lo * 32 + i] := List.getElem?_eq_getElem hp
        refine ⟨_, rfl, r, dxa, _, rfl, ea, rfl, _, rfl, r, l, n + (i : Nat), _, _, rfl, ⟨hl, dxa, ea⟩, hb, fun H3 x3 r3 => ⟨_, rfl, rfl, _, rfl, ite2 (fun h3 => ?_) (fun h3 => ?_)⟩⟩
        · have h3 := V.int.inj (of_decide_eq_true h3)
          have hbb : ∀ c : Bool, ((c.toNat : Nat) : Int) = ((b.toNat : Nat) : Int) → c = b := fun c hc => by
            cases c <;> cases b <;> first | rfl | cases hc
          rw [hbb _ h3] at hb
          refine ⟨_, rfl, rfl, _, rfl, ite2 (fun h4 => ?_) (fun h4 => ?_)⟩
          · have h4 := V.int.inj (of_decide_eq_true h4)
            have h5 : cn b l (lo * 32 + i) = j := by omega
            have h6 := pos_get hb
            rw [h5] at h6
            refine ⟨_, rfl, ?_⟩
            have h7 := q1 j (n + (i : Nat) + 1) rfl H3 (xa.trans x3) r3 (by omega) (by omega)
            rw [h6] at h7
            exact h7
          · have h4 : (j : Int) - (cn b l (lo * 32 + i) : Nat) ≠ 0 := fun z => h4 (decide_eq_true (congrArg V.int z))
            have h5 : cn b l (lo * 32 + (i + 1)) = cn b l (lo * 32 + i) + 1 := by
              rw [show lo * 32 + (i + 1) = (lo * 32 + i) + 1 from rfl, cn_succ, if_pos (bt_iff.mpr hb)]
            refine ⟨_, rfl, _, _, rfl, rfl, xa.trans x3, ?_, by omega, some (.int ((lo * 32 + i : Nat) : Int)), ?_⟩
            · rw [show n + ((i + 1 : Nat) : Int) = n + (i : Int) + 1 by omega]
              exact r3
            · rw [h5, show (j : Int) - ((cn b l (lo * 32 + i) + 1 : Nat) : Int) = (j : Int) - ((cn b l (lo * 32 + i) : Nat) : Int) - 1 by omega]
              rfl
        · have h5 : cn b l (lo * 32 + (i + 1)) = cn b l (lo * 32 + i) := by
            have hne : ¬ bt b l (lo * 32 + i) = true := fun z => by
              rw [bt_iff.mp z] at hb
              exact h3 (decide_eq_true (by rw [← Option.some.inj hb]))
            rw [show lo * 32 + (i + 1) = (lo * 32 + i) + 1 from rfl, cn_succ, if_neg hne]
            rfl
          refine ⟨xa.trans x3, ?_, by omega, some (.int ((lo * 32 + i : Nat) : Int)), ?_⟩
          · rw [show n + ((i + 1 : Nat) : Int) = n + (i : Int) + 1 by omega]
            exact r3
          · rw [h5]
            rfl
      · intro σ Ha p
        obtain ⟨xa, ra, hj, t7, rfl⟩ := p
        have hend : cn b l l.length ≤ j := by
          rcases hhi with h | h
          · rw [show lo * 32 + (min l.length ((lo + 1) * 32) - lo * 32) = l.length by omega] at hj
            exact hj
          · by_cases h6 : lo = l.length / 32
            · rw [show lo * 32 + (min l.length ((lo + 1) * 32) - lo * 32) = l.length by omega] at hj
              exact hj
            · rw [show lo * 32 + (min l.length ((lo + 1) * 32) - lo * 32) = (lo + 1) * 32 by omega] at hj
              omega
        have h7 := q1 j _ rfl Ha xa ra (by omega) (by omega)
        rw [pos_none hend] at h7
        exact h7
def spOneAt (K : PySem.W.Frag) : Sp := fun vs H Q E => ∃ (r : Addr) (l : List Bool) (n a : Int), vs = [.ref r, .int a] ∧ RowAt K H r l n ∧ (∀ (j : Nat) (m : Int), a = j → ∀ H', Xt (tK K) H H' → RowAt K H' r l m → n ≤ m → m ≤ n + 32 → Q (on (pos true l)[j]?) H') ∧ (a < 0 → E (.ref (He.ga K "BadPlace")) none H)
theorem ok_Row_one_at (T : Tx K mg) : OkN P w K mg base ("Row", some "one_at") 7 ["self", "number"] (spOneAt K) := by
  refine T.F_Row_one_at.ok sc_Row_one_at (fun vs H Q E h => ?_) (fun cdv A outer s H vs Q E hr h => ?_)
  · obtain ⟨r, l, n, a, rfl, _⟩ := h
    rfl
  · obtain ⟨r, l, n, a, rfl, ⟨hl, dx, e⟩, q1, q2⟩ := h
    refine ⟨_, (pss_one (ps_ret (pe_meth (dvs := []) (pv 0) T.k_Row T.M_Row_found_at (ok_Row_found_at T) (hr.mono (by decide)) T.B_Row_found_at .nil psP (pa_cons (pv 1) (pa_cons pe_int pa_nil))))), ?_⟩
    exact ⟨_, rfl, r, dx, _, rfl, e, rfl, _, rfl, r, l, n, a, true, rfl, ⟨hl, dx, e⟩, q1, q2⟩
def spNoughtAt (K : PySem.W.Frag) : Sp := fun vs H Q E => ∃ (r : Addr) (l : List Bool) (n a : Int), vs = [.ref r, .int a] ∧ RowAt K H r l n ∧ (∀ (j : Nat) (m : Int), a = j → ∀ H', Xt (tK K) H H' → RowAt K H' r l m → n ≤ m → m ≤ n + 32 → Q (on (pos false l)[j]?) H') ∧ (a < 0 → E (.ref (He.ga K "BadPlace")) none H)
theorem ok_Row_nought_at (T : Tx K mg) : OkN P w K mg base ("Row", some "nought_at") 7 ["self", "number"] (spNoughtAt K) := by
  refine T.F_Row_nought_at.ok sc_Row_nought_at (fun vs H Q E h => ?_) (fun cdv A outer s H vs Q E hr h => ?_)
  · obtain ⟨r, l, n, a, rfl, _⟩ := h
    rfl
  · obtain ⟨r, l, n, a, rfl, ⟨hl, dx, e⟩, q1, q2⟩ := h
    refine ⟨_, (pss_one (ps_ret (pe_meth (dvs := []) (pv 0) T.k_Row T.M_Row_found_at (ok_Row_found_at T) (hr.mono (by decide)) T.B_Row_found_at .nil psP (pa_cons (pv 1) (pa_cons pe_int pa_nil))))), ?_⟩
    exact ⟨_, rfl, r, dx, _, rfl, e, rfl, _, rfl, r, l, n, a, false, rfl, ⟨hl, dx, e⟩, q1, q2⟩
def spRow (K : PySem.W.Frag) : Sp := fun vs H Q E => ∃ (H0 : Hp) (r dx : Addr) (z : Str), vs = [.ref r, .str z] ∧ Xt (tK K) H0 H ∧ Nw H0 r ∧ H r = some (.ins (He.ga K "Row") dx []) ∧ z.length ≤ 100000 ∧
  (∀ l, z = sb l → l.length ≤ 4096 → ∀ H', Xt (tK K) H0 H' → RowAt K H' r l 0 → Q .non H') ∧ (¬ IsB z → ∀ H', Xt (tK K) H0 H' → E (.ref (He.ga K "BadBits")) none H') ∧ (∀ l, z = sb l → 4096 < l.length → ∀ H', Xt (tK K) H0 H' → E (.ref (He.ga K "TooMany")) none H')
theorem ok_Row_init (T : Tx K mg) : OkN P w K mg base ("Row", some "__init__") 3 ["self", "bits"] (spRow K) := by
  refine T.F_Row_init.ok sc_Row_init (fun vs H Q E h => ?_) (fun cdv A outer s H vs Q E hr h => ?_)
  · obtain ⟨H0, r, dx, z, rfl, _⟩ := h
    rfl
  · obtain ⟨H0, r, dx, z, rfl, x0, nr, e, hz, q1, q2, q3⟩ := h
    refine ⟨_, (pss_cons (ps_expr (pe_callS (ok_need_bits T) (hr.mono (by decide)) (by rfl) T.g_need_bits T.F_need_bits.kp T.B_need_bits psE (pa_cons (pv 1) pa_nil)))
    (pss_cons (ps_if (pt_cmpR op_gt (pe_callB call_len_str (by rfl) T.z_len b_len (pa_cons (pv 1) pa_nil)) (pe_glob (v := .int _) (by rfl) T.c_MOST_rows.choose_spec ⟨_, rfl⟩) (nomark _))
    (pss_one (ps_rz T.x_TooMany rfl (by decide))) pss_nil)
    (pss_cons (ps_fld (pv 0) (pv 1) rfl)
    (pss_cons (ps_fld (pv 0) (pe_callS (ok_needs T) (hr.mono (by decide)) (by rfl) T.g_needs T.F_needs.kp T.B_needs psE (pa_cons (pe_callB call_len_str (by rfl) T.z_len b_len (pa_cons (pv 1) pa_nil)) pa_nil)) rfl)
    (pss_cons (ps_fld (pv 0) (pe_op op_fdivW (pe_callB call_len_str (by rfl) T.z_len b_len (pa_cons (pv 1) pa_nil)) (pe_glob (v := .int _) (by rfl) T.c_BLOCK.choose_spec ⟨_, rfl⟩)) rfl)
    (pss_cons (ps_set (i := 2) sc_Row_init.nd rfl (.inl rfl) (pe_lst pa_nil))
    (pss_cons (ps_set (i := 3) sc_Row_init.nd rfl (.inl rfl) pe_int)
    (pss_cons (ps_for (passes_of rfl) rfl (pi_range1 (by rfl) T.z_range (pa_cons (pe_fldK (K := K) rfl (pv 0) (by rfl)) pa_nil)) (pg_name (i := 4) sc_Row_init.nd rfl (.inl rfl))
    (pss_cons (ps_set (i := 3) sc_Row_init.nd rfl (.inl rfl) (pe_op op_add (pv 3) (pe_m1 F.slot_str_count F.type_str_count mt_count (pe_slice sl_str (pv 1) (po_some (pe_op op_mul (pv 4) (pe_glob (v := .int _) (by rfl) T.c_BLOCK.choose_spec ⟨_, rfl⟩))) (po_some (pe_op op_mul (pe_op op_add (pv 4) pe_int) (pe_glob (v := .int _) (by rfl) T.c_BLOCK.choose_spec ⟨_, rfl⟩)))) pe_str)))
    (pss_one (ps_expr (pe_bmK (K := K) rfl F.plainAttrs_list F.slot_list_append F.type_list_append mt_append (pv 2) (pa_cons (pv 3) pa_nil) (by rfl) (by rfl) (by rfl) (by rfl) (by rfl))))))
    (pss_cons (ps_fld (pv 0) (pe_callS (ok_pack T) (hr.mono (by decide)) (by rfl) T.g_pack T.F_pack.kp T.B_pack psE (pa_cons (pv 2) (pa_cons (pe_fldK (K := K) rfl (pv 0) (by rfl)) pa_nil))) rfl)
    (pss_one (ps_fld (pv 0) pe_int rfl))))))))))), ?_⟩
    refine ⟨_, rfl, z, rfl, hz, fun hb H1 x1 => ?_, fun hb H1 x1 => q2 hb H1 (x0.trans x1.up)⟩
    obtain ⟨l, rfl⟩ := hb
    have hzl : (sb l).length ≤ sizeLine := Nat.le_trans hz (by decide)
    have e1 := x1.same e fun ps z => by cases z
    have x1 := x0.trans x1.up
    refine ⟨_, rfl, _, rfl, hzl, _, _, rfl, rfl, _, rfl, ite2 (fun h0 => ?_) (fun h0 => ?_)⟩
    · have h0 := of_decide_eq_true h0
      rw [sb_len] at h0
      exact q3 l rfl (by omega) H1 x1
    have h0 : l.length ≤ 4096 := by
      simp only [decide_eq_true_eq, sb_len] at h0
      omega
    refine ⟨_, rfl, _, rfl, r, _, dx, _, rfl, e1, T.k_Row, T.n_Row_own, by exact (by decide : 0 < 1000), ?_⟩
    have x2 := x1.put (o := .ins (He.ga K "Row") dx [("own", .str (sb l))]) nr (.ins e1)
    have e2 : (upd H1 r (.ins (He.ga K "Row") dx [("own", .str (sb l))])) r = some (.ins (He.ga K "Row") dx [("own", .str (sb l))]) := upd_same ..
    show tSeq _ _ _ _ (upd H1 r (.ins (He.ga K "Row") dx [("own", .str (sb l))]))
    generalize upd H1 r (.ins (He.ga K "Row") dx [("own", .str (sb l))]) = H2 at x2 e2 ⊢
    refine ⟨_, rfl, _, rfl, hzl, _, rfl, fun _ => ?_, fun h => absurd h (by omega)⟩
    rw [show ((((sb l).length : Nat) : Int)).toNat = l.length by rw [sb_len]; omega]
    refine ⟨_, rfl, r, _, dx, _, rfl, e2, T.k_Row, T.n_Row_wide, by exact (by decide : 1 < 1000), ?_⟩
    have x3 := x2.put (o := .ins (He.ga K "Row") dx [("own", .str (sb l)), ("wide", .int (nd l.length))]) nr (.ins e2)
    have e3 : (upd H2 r (.ins (He.ga K "Row") dx [("own", .str (sb l)), ("wide", .int (nd l.length))])) r = some (.ins (He.ga K "Row") dx [("own", .str (sb l)), ("wide", .int (nd l.length))]) := upd_same ..
    show tSeq _ _ _ _ (upd H2 r (.ins (He.ga K "Row") dx [("own", .str (sb l)), ("wide", .int (nd l.length))]))
    generalize upd H2 r (.ins (He.ga K "Row") dx [("own", .str (sb l)), ("wide", .int (nd l.length))]) = H3 at x3 e3 ⊢
    refine ⟨_, rfl, _, rfl, hzl, _, _, rfl, rfl, wide_div (b := 6) (by decide) (by decide) (by decide) (by decide), _, rfl, r, _, dx, _, rfl, e3, T.k_Row, T.n_Row_whole_blocks, by exact (by decide : 2 < 1000), ?_⟩
    have e32 : (((sb l).length : Nat) : Int) / 32 = ((l.length / 32 : Nat) : Int) := by rw [sb_len]; omega
    let f3 : List (Str × V) := [("own", .str (sb l)), ("wide", .int (nd l.length)), ("whole_blocks", .int ((l.length / 32 : Nat) : Int))]
    have x4 := x3.put (o := .ins (He.ga K "Row") dx f3) nr (.ins e3)
    have e4 : (upd H3 r (.ins (He.ga K "Row") dx f3)) r = some (.ins (He.ga K "Row") dx f3) := upd_same ..
    show tSeq _ _ _ _ (upd H3 r (.ins (He.ga K "Row") dx [("own", .str (sb l)), ("wide", .int (nd l.length)), ("whole_blocks", .int ((((sb l).length : Nat) : Int) / 32))]))
    rw [e32]
    generalize upd H3 r (.ins (He.ga K "Row") dx [("own", .str (sb l)), ("wide", .int (nd l.length)), ("whole_blocks", .int ((l.length / 32 : Nat) : Int))]) = H4 at x4 e4 ⊢
    refine ⟨by decide, fun p np => ?_⟩
    have np0 : Nw H0 p := x4.nw (.of np)
    have hpr : r ≠ p := fun z => by rw [z, np] at e4; cases e4
    have x5 := x4.trans (.new (o := .lst []) np)
    have e5 : (upd H4 p (.lst [])) r = some (.ins (He.ga K "Row") dx f3) := by rw [upd_ne hpr]; exact e4
    have c5 : (upd H4 p (.lst [])) p = some (.lst (((List.range 0).map fun j => ((cn true l ((j + 1) * 32) : Nat) : Int)).map .int)) := upd_same ..
    generalize upd H4 p (.lst []) = H5 at x5 e5 c5 ⊢
    refine ⟨_, rfl, r, _, dx, _, _, rfl, e5, T.k_Row, T.n_Row_whole_blocks, rfl, _, rfl, by omega, by omega, for_it w_range (fun i σ H' => Xt (tK K) H0 H' ∧ H' r = some (.ins (He.ga K "Row") dx f3) ∧ H' p = some (.lst (((List.range i).map fun j => ((cn true l ((j + 1) * 32) : Nat) : Int)).map .int)) ∧ ∃ t, σ = [some (.ref r), some (.str (sb l)), some (.ref p), some (.int (cn true l (i * 32) : Nat)), t]) ⟨x5, e5, c5, none, rfl⟩ (fun _ _ _ _ _ => trivial) ?_ ?_⟩
    · intro i x σ Ha Hb hi hp hy
      obtain ⟨xa, ea, ca, t, rfl⟩ := hp
      obtain ⟨rfl, rfl⟩ := hy
      have hi : i < l.length / 32 := by omega
      have ei : (0 : Int) + (i : Int) = (i : Int) := by omega
      rw [ei]
      have ecut : cutS (sb l) (some ((i : Int) * 32)) (some (((i : Int) + 1) * 32)) = sb ((l.take ((i + 1) * 32)).drop (i * 32)) := by
        rw [show (i : Int) * 32 = ((i * 32 : Nat) : Int) by omega, show ((i : Int) + 1) * 32 = (((i + 1) * 32 : Nat) : Int) by omega, cut_sb]
      have ecnt : cn true ((l.take ((i + 1) * 32)).drop (i * 32)) ((l.take ((i + 1) * 32)).drop (i * 32)).length = cn true l ((i + 1) * 32) - cn true l (i * 32) := by
        have h1 : ((l.take ((i + 1) * 32)).drop (i * 32)).length = 32 := by rw [List.length_drop, List.length_take]; omega
        rw [h1]
        have h2 : cn true l (i * 32 + 32) = cn true l (i * 32) + (fr (fun k => bt true l (i * 32 + k)) 32).length := fr_add ..
        rw [show (i + 1) * 32 = i * 32 + 32 by omega, h2, Nat.add_sub_cancel_left]
        unfold cn
        rw [fr_congr fun k hk => ?_]
        unfold bt
        rw [List.getElem?_drop, List.getElem?_take, if_pos (by omega)]
      refine ⟨_, rfl, _, rfl, _, rfl, _, _, rfl, rfl, .inr ⟨by decide, by decide⟩, _, rfl, _, rfl, _, _, rfl, rfl, _, _, rfl, rfl, .inr ⟨by decide, by decide⟩, _, rfl, sb l, rfl, hzl, ⟨_, rfl⟩, _, _, rfl, rfl, _, _, rfl, rfl, ?_⟩
      show gName 3 (V.int (((cn true l (i * 32) : Nat) : Int) + Txt.count (cutS (sb l) (some ((i : Int) * 32)) (some (((i : Int) + 1) * 32))) "1")) _ _ _
      have hmono : cn true l (i * 32) ≤ cn true l ((i + 1) * 32) := cn_mono (by omega)
      rw [ecut, count_bit, ecnt, show ((cn true l (i * 32) : Nat) : Int) + ((cn true l ((i + 1) * 32) - cn true l (i * 32) : Nat) : Int) = ((cn true l ((i + 1) * 32) : Nat) : Int) by omega]
      refine ⟨_, rfl, .inl ⟨rfl, _, SqL.of ca⟩, _, rfl, p, _, _, rfl, rfl, ca, ?_, xa.mut np0 ca, by rw [upd_ne hpr]; exact ea, ?_, some (.int (i : Nat)), rfl⟩
      · rw [List.length_map, List.length_map, List.length_range]
        exact Nat.lt_of_lt_of_le hi (Nat.le_trans (show l.length / 32 ≤ 128 by omega) (by decide))
      · rw [upd_same, List.range_succ, List.map_append, List.map_append]
        rfl
    · intro σ Ha hp
      obtain ⟨xa, ea, ca, t, rfl⟩ := hp
      have ek : ((((l.length / 32 : Nat) : Int))).toNat = l.length / 32 := by omega
      rw [ek] at ca
      have hbad : ∀ n ∈ ((List.range (l.length / 32)).map fun j => ((cn true l ((j + 1) * 32) : Nat) : Int)), 0 ≤ n ∧ nd n.toNat ≤ nd l.length := fun n hn => by
        obtain ⟨j, hj, rfl⟩ := List.mem_map.mp hn
        have hj := List.mem_range.mp hj
        refine ⟨by omega, (nd_le _ _).mpr ?_⟩
        have h1 : cn true l ((j + 1) * 32) ≤ (j + 1) * 32 := cn_le
        have h2 : l.length < 2 ^ nd l.length := (nd_le _ _).mp (Nat.le_refl _)
        show cn true l ((j + 1) * 32) < _
        omega
      refine ⟨_, rfl, _, rfl, r, _, dx, _, _, rfl, ea, T.k_Row, T.n_Row_wide, rfl, p, _, nd l.length, rfl, SqL.of ca, ?_, Nat.le_trans (nd_len h0) (by decide), fun _ H6 x6 => ?_, fun ⟨n, hn, hb⟩ => ?_⟩
      · rw [List.length_map, List.length_range]
        omega
      · have e6 := x6.same ea fun ps z => by cases z
        have x6 := xa.trans x6.up
        have ect : ((List.range (l.length / 32)).map fun j => ((cn true l ((j + 1) * 32) : Nat) : Int)).map Int.toNat = cts l := by
          rw [List.map_map]
          rfl
        rw [ect]
        refine ⟨_, rfl, r, _, dx, _, rfl, e6, T.k_Row, T.n_Row_counts, by exact (by decide : 3 < 1000), ?_⟩
        have x7 := x6.put (o := .ins (He.ga K "Row") dx (rowF l)) nr (.ins e6)
        have e7 : (upd H6 r (.ins (He.ga K "Row") dx (rowF l))) r = some (.ins (He.ga K "Row") dx (rowF l)) := upd_same ..
        refine ⟨_, rfl, r, _, dx, _, rfl, e7, T.k_Row, T.n_Row_seen, by exact (by decide : 4 < 1000), ?_⟩
        exact q1 l rfl h0 _ (x7.put nr (.ins e7)) ⟨h0, dx, upd_same ..⟩
      · exfalso
        have := hbad n hn
        omega
def spRoom (K : PySem.W.Frag) : Sp := fun vs H Q E => ∃ (r : Addr) (l : List Bool) (n : Int), vs = [.ref r] ∧ RowAt K H r l n ∧ Q (.int ((l.length + l.length / 32 * nd l.length : Nat) : Int)) H
theorem ok_Row_room (T : Tx K mg) : OkN P w K mg base ("Row", some "room") 1 ["self"] (spRoom K) := by
  refine T.F_Row_room.ok sc_Row_room (fun vs H Q E h => ?_) (fun cdv A outer s H vs Q E hr h => ?_)
  · obtain ⟨r, l, n, rfl, _⟩ := h
    rfl
  · obtain ⟨r, l, n, rfl, ⟨hl, dx, e⟩, q⟩ := h
    refine ⟨_, (pss_one (ps_ret (pe_op op_add (pe_callB call_len_str (by rfl) T.z_len b_len (pa_cons (pe_fldK (K := K) rfl (pv 0) (by rfl)) pa_nil)) (pe_callB call_len_str (by rfl) T.z_len b_len (pa_cons (pe_fldK (K := K) rfl (pv 0) (by rfl)) pa_nil))))), ?_⟩
    have hlen : (sb (pk (cts l) (nd l.length))).length = l.length / 32 * nd l.length := by rw [sb_len, pk_len, cts_len]
    refine ⟨_, rfl, r, _, dx, _, _, rfl, e, T.k_Row, T.n_Row_own, rfl, _, rfl, own_len hl, _, rfl, r, _, dx, _, _, rfl, e, T.k_Row, T.n_Row_counts, rfl, _, rfl, ?_, _, _, rfl, rfl, ?_⟩
    · rw [hlen]
      exact Nat.le_trans (Nat.mul_le_mul (show l.length / 32 ≤ 128 by omega) (nd_len hl)) (by decide)
    · show Q (.int ((((sb l).length : Nat) : Int) + (((sb (pk (cts l) (nd l.length))).length : Nat) : Int))) H
      rw [hlen, sb_len, ← Int.natCast_add]
      exact q
end
end Tw

set_option maxHeartbeats 4000000
namespace Tw
open PySem PySem.Spec PyProof.Rows L2 LamX
section
variable {P : Program} {w : World} {K : PySem.W.Frag} {mg : Str → Option Value} {base : Heap}
def spLTree (K : PySem.W.Frag) : Sp := fun vs H Q E => ∃ (m : Int) (n : Nat), vs = [.int m, .int n] ∧ 0 ≤ m ∧ 1 ≤ n ∧ n ≤ 100 ∧ ∀ H' v o, Xt (tK K) H H' → ObAt K H' v o → (∃ cs, o = .li cs) → isT o = true → (btT o).length = 2 * n → ht o ≤ n → Q v H'
theorem ok__law_tree (T : Tx K mg) : OkN P w K mg base ("_law_tree", none) 2 ["_law_more", "_law_many"] (spLTree K) := by
  refine T.F__law_tree.ok sc__law_tree (fun vs H Q E h => ?_) (fun cdv A outer s H vs Q E hr h => ?_)
  · obtain ⟨m, n, rfl, _⟩ := h
    rfl
  · obtain ⟨m, n, rfl, hm0, hn1, hn, q⟩ := h
    refine ⟨_, (pss_cons (ps_set (i := 2) sc__law_tree.nd rfl (.inl rfl) (pe_lst (pa_cons (pe_lst pa_nil) pa_nil)))
    (pss_cons (ps_set (i := 3) sc__law_tree.nd rfl (.inl rfl) (pe_lst (pa_cons (pe_ix (ix_listK (K := K) rfl) (pv 2) pe_int (fun _ _ => rfl)) pa_nil)))
    (pss_cons (ps_set (i := 4) sc__law_tree.nd rfl (.inl rfl) (pe_lst pa_nil))
    (pss_cons (ps_for (passes_of rfl) rfl (pi_range1 (by rfl) T.z_range (pa_cons (pe_op op_sub (pv 1) pe_int) pa_nil)) (pg_name (i := 5) sc__law_tree.nd rfl (.inl rfl))
    (pss_cons (ps_set (i := 6) sc__law_tree.nd rfl (.inl rfl) (pe_callS (ok__law_drawn T) (hr.mono (by decide)) (by rfl) T.g__law_drawn T.F__law_drawn.kp T.B__law_drawn psE (pa_cons (pv 0) (pa_cons (pv 5) pa_nil))))
    (pss_cons (ps_set (i := 7) sc__law_tree.nd rfl (.inl rfl) (pe_ix (ix_listK (K := K) rfl) (pe_lst (pa_cons (pe_op op_mod (pv 6) (pe_callB (call_len_seqK (K := K) rfl) (by rfl) T.z_len b_len (pa_cons (pv 3) pa_nil))) (pa_cons (pe_op op_sub (pe_callB (call_len_seqK (K := K) rfl) (by rfl) T.z_len b_len (pa_cons (pv 3) pa_nil)) pe_int) (pa_cons pe_int (pa_cons (pe_callB (call_max2 rfl) (by rfl) T.z_max b_max (pa_cons pe_int (pa_cons (pe_op op_sub (pe_op op_sub (pe_callB (call_len_seqK (K := K) rfl) (by rfl) T.z_len b_len (pa_cons (pv 3) pa_nil)) pe_int) (pe_op op_mod (pv 6) pe_int)) pa_nil))) pa_nil))))) (pe_op op_mod (pv 0) pe_int) (fun _ _ => rfl)))
    (pss_cons (ps_set (i := 8) sc__law_tree.nd rfl (.inl rfl) (pe_lst pa_nil))
    (pss_cons (ps_expr (pe_bmK (K := K) rfl F.plainAttrs_list F.slot_list_insert F.type_list_insert mt_insert (pe_ix (ix_listK (K := K) rfl) (pv 3) (pv 7) (fun _ _ => rfl)) (pa_cons (pe_op op_mod (pe_op op_fdiv (pv 6) pe_int) (pe_op op_add (pe_callB (call_len_seqK (K := K) rfl) (by rfl) T.z_len b_len (pa_cons (pe_ix (ix_listK (K := K) rfl) (pv 3) (pv 7) (fun _ _ => rfl)) pa_nil)) pe_int)) (pa_cons (pv 8) pa_nil)) (by rfl) (by rfl) (by rfl) (by rfl) (by rfl)))
    (pss_one (ps_expr (pe_bmK (K := K) rfl F.plainAttrs_list F.slot_list_append F.type_list_append mt_append (pv 3) (pa_cons (pv 8) pa_nil) (by rfl) (by rfl) (by rfl) (by rfl) (by rfl)))))))))
    (pss_one (ps_ret (pe_ix (ix_listK (K := K) rfl) (pv 2) pe_int (fun _ _ => rfl)))))))), ?_⟩
    refine ⟨by decide, fun r nr => ⟨by exact (by decide : 1 ≤ sizeLine), fun R nR => ?_⟩⟩
    have hrR : r ≠ R := fun z => by rw [← z, upd_same] at nR; cases nR
    have x2 : Xt (tK K) H (upd (upd H r (.lst [])) R (.lst [.ref r])) := (Xt.new nr).trans (.new nR)
    have er : (upd (upd H r (.lst [])) R (.lst [.ref r])) r = some (.lst []) := by rw [upd_ne hrR, upd_same]
    have eR : (upd (upd H r (.lst [])) R (.lst [.ref r])) R = some (.lst [.ref r]) := upd_same ..
    show tSeq _ _ _ _ (upd (upd H r (.lst [])) R (.lst [.ref r]))
    generalize upd (upd H r (.lst [])) R (.lst [.ref r]) = H2 at x2 er eR ⊢
    refine ⟨_, rfl, R, _, 0, .ref r, rfl, rfl, SqL.of eR, atI_nat (j := 0) rfl, by exact (by decide : 1 ≤ sizeLine), fun N nN => ?_⟩
    have hrN : r ≠ N := fun z => by rw [← z, er] at nN; cases nN
    have hRN : R ≠ N := fun z => by rw [← z, eR] at nN; cases nN
    have x3 := x2.trans (.new (o := .lst [.ref r]) nN)
    have er3 : (upd H2 N (.lst [.ref r])) r = some (.lst []) := by rw [upd_ne hrN]; exact er
    have eR3 : (upd H2 N (.lst [.ref r])) R = some (.lst [.ref r]) := by rw [upd_ne hRN]; exact eR
    have eN3 : (upd H2 N (.lst [.ref r])) N = some (.lst ([r].map V.ref)) := upd_same ..
    have wN : Nw H N := x2.nw (.of nN)
    have wr : Nw H r := .of nr
    show tSeq _ _ _ _ (upd H2 N (.lst [.ref r]))
    generalize upd H2 N (.lst [.ref r]) = H3 at x3 er3 eR3 eN3 ⊢
    refine ⟨by decide, fun p4 n4 => ?_⟩
    have x4 := x3.trans (.new (o := .lst []) n4)
    have er4 := (Xt.new (T := tK K) (o := .lst []) n4).lst er3
    have eR4 := (Xt.new (T := tK K) (o := .lst []) n4).lst eR3
    have eN4 := (Xt.new (T := tK K) (o := .lst []) n4).lst eN3
    show tSeq _ _ _ _ (upd H3 p4 (.lst []))
    generalize upd H3 p4 (.lst []) = H4 at x4 er4 eR4 eN4 ⊢
    have ek : ((n : Int) - 1).toNat = n - 1 := by omega
    refine ⟨_, rfl, _, _, rfl, rfl, _, rfl, by omega, by omega, for_it w_range (fun i σ H' => Xt (tK K) H H' ∧ ∃ (t : AT) (ns : List Addr), AtH H' t ∧ t.root = r ∧ (addrs t).Nodup ∧ (∀ a, a ∈ ns ↔ a ∈ addrs t) ∧ ns.length = i + 1 ∧ (addrs t).length = i + 1 ∧ H' N = some (.lst (ns.map V.ref)) ∧ H' R = some (.lst [.ref r]) ∧ R ∉ addrs t ∧ N ∉ addrs t ∧ R ≠ N ∧ (∀ a ∈ addrs t, Nw H a) ∧ ∃ t5 t6 t7 t8, σ = [some (.int m), some (.int n), some (.ref R), some (.ref N), some (.ref p4), t5, t6, t7, t8])
      ⟨x4, .nd r [], [r], ⟨er4, trivial⟩, rfl, (show [r].Nodup by simp), fun a => Iff.rfl, rfl, rfl, eN4, eR4, ?_, ?_, hRN, ?_, _, _, _, _, rfl⟩ (fun _ _ _ _ _ => trivial) ?_ ?_⟩
    · exact fun h => hrR (List.mem_singleton.mp h).symm
    · exact fun h => hrN (List.mem_singleton.mp h).symm
    · intro a ha
      exact List.mem_singleton.mp ha ▸ wr
    · intro i x σ Ha Hb hi hp hy
      obtain ⟨xa, t, ns, ht, hroot, hnd, hmem, hlen, hlen2, eN, eR, hRt, hNt, hNR, hnw, t5, t6, t7, t8, rfl⟩ := hp
      obtain ⟨rfl, rfl⟩ := hy
      have hi : i < n - 1 := by omega
      have ei : (0 : Int) + (i : Int) = (i : Int) := by omega
      rw [ei]
      refine ⟨_, rfl, _, rfl, _, _, rfl, by omega, by omega, ?_⟩
      have hd0 := (dr_rng m (i : Int)).1
      generalize dr m (i : Int) = d at hd0 ⊢
      obtain ⟨d, rfl⟩ : ∃ k : Nat, d = k := ⟨d.toNat, by omega⟩
      have hm4 : m % 4 = 0 ∨ m % 4 = 1 ∨ m % 4 = 2 ∨ m % 4 = 3 := by omega
      have lN : ((ns.map V.ref).length : Int) = (i : Int) + 1 := by rw [List.length_map, hlen]; rfl
      have sN : SqL K Hb N (ns.map V.ref) := SqL.of eN
      refine ⟨_, rfl, _, rfl, _, _, rfl, .inl sN, _, _, rfl, rfl, (show (0 : Int) < ((ns.map V.ref).length : Int) by omega), _, rfl, _, _, rfl, .inl sN, _, _, rfl, rfl, _, rfl, _, _, rfl, .inl sN, _, _, rfl, rfl, _, rfl, _, _, rfl, rfl, (show (0 : Int) < 3 by decide), _, _, rfl, rfl, _, _, rfl, by exact (by decide : 4 ≤ sizeLine), fun p5 n5 => ?_⟩
      obtain ⟨k, hk, ek⟩ : ∃ k : Nat, k < i + 1 ∧ atI [V.int ((d : Int) % ((ns.map V.ref).length : Int)), V.int (((ns.map V.ref).length : Int) - 1), V.int 0, V.int (if ((ns.map V.ref).length : Int) - 1 - (d : Int) % 3 > 0 then ((ns.map V.ref).length : Int) - 1 - (d : Int) % 3 else 0)] (m % 4) = some (.int (k : Int)) := by
        rw [lN]
        rcases hm4 with h | h | h | h
        · refine ⟨d % (i + 1), Nat.mod_lt _ (by omega), ?_⟩
          rw [h]
          exact atI_nat (j := 0) (congrArg (fun z => some (V.int z)) (Int.natCast_emod _ _).symm)
        · refine ⟨i, by omega, ?_⟩
          rw [h]
          exact atI_nat (j := 1) (congrArg (fun z => some (V.int z)) (by omega))
        · refine ⟨0, by omega, ?_⟩
          rw [h]
          exact atI_nat (j := 2) rfl
        · refine ⟨i - d % 3, by omega, ?_⟩
          rw [h]
          refine atI_nat (j := 3) (congrArg (fun z => some (V.int z)) ?_)
          split <;> omega
      refine ⟨_, rfl, _, _, rfl, rfl, (show (0 : Int) < 4 by decide), p5, _, _, .int (k : Int), rfl, rfl, SqL.of (upd_same ..), ek, ?_⟩
      have x5 : Xt (tK K) Hb (upd Hb p5 (.lst [V.int ((d : Int) % ((ns.map V.ref).length : Int)), V.int (((ns.map V.ref).length : Int) - 1), V.int 0, V.int (if ((ns.map V.ref).length : Int) - 1 - (d : Int) % 3 > 0 then ((ns.map V.ref).length : Int) - 1 - (d : Int) % 3 else 0)])) := .new n5
      show tSeq _ _ _ _ (upd Hb p5 (.lst [V.int ((d : Int) % ((ns.map V.ref).length : Int)), V.int (((ns.map V.ref).length : Int) - 1), V.int 0, V.int (if ((ns.map V.ref).length : Int) - 1 - (d : Int) % 3 > 0 then ((ns.map V.ref).length : Int) - 1 - (d : Int) % 3 else 0)]))
      generalize upd Hb p5 _ = H5 at x5 ⊢
      refine ⟨by decide, fun f nf => ?_⟩
      have x8 := x5.trans (.new (o := .lst []) nf)
      have hf8 : (upd H5 f (.lst [])) f = some (.lst []) := upd_same ..
      have nwf : Nw H f := (xa.trans x5).nw (.of nf)
      have hfa : ∀ a ∈ addrs t, a ≠ f := fun a ha z => by
        obtain ⟨xs, h1, _⟩ := at_of_mem t ht ha
        rw [z] at h1
        rw [x5.lst h1] at nf
        cases nf
      have hfN : N ≠ f := fun z => by rw [← z, x5.lst eN] at nf; cases nf
      have hfR : R ≠ f := fun z => by rw [← z, x5.lst eR] at nf; cases nf
      show tSeq _ _ _ _ (upd H5 f (.lst []))
      generalize upd H5 f (.lst []) = H8 at x8 hf8 ⊢
      have eN8 := x8.lst eN
      have eR8 := x8.lst eR
      have ht8 := Xg.att x8 t ht
      obtain ⟨b, hb⟩ : ∃ b, ns[k]? = some b := ⟨ns[k], List.getElem?_eq_getElem (by omega)⟩
      have hbm : b ∈ addrs t := (hmem b).mp (List.mem_of_getElem? hb)
      obtain ⟨xs, eb8, lb⟩ := at_of_mem t ht8 hbm
      have hbk : (ns.map V.ref)[k]? = some (.ref b) := by rw [List.getElem?_map, hb]; rfl
      have h63 : ((d : Int) / 64 % ((xs.length : Int) + 1)) < 2 ^ 63 := by
        have := Int.emod_lt_of_pos ((d : Int) / 64) (show (0 : Int) < (xs.length : Int) + 1 by omega)
        omega
      refine ⟨_, rfl, _, rfl, N, _, (k : Int), .ref b, rfl, rfl, SqL.of eN8, atI_nat hbk, .inl ⟨rfl, _, SqL.of eb8⟩, _, rfl, _, _, rfl, rfl, ⟨by decide, by decide⟩, _, rfl, _, rfl, N, _, (k : Int), .ref b, rfl, rfl, SqL.of eN8, atI_nat hbk, _, _, rfl, .inl (SqL.of eb8), _, _, rfl, rfl, _, _, rfl, rfl, (show (0 : Int) < (xs.length : Int) + 1 by omega), _, rfl, b, xs, _, _, rfl, rfl, eb8, Nat.lt_of_le_of_lt (show xs.length ≤ 100 by omega) (by decide), Int.emod_nonneg _ (by omega), h63, ?_⟩
      generalize ((d : Int) / 64 % ((xs.length : Int) + 1)).toNat = j
      have hbR : R ≠ b := fun z => hRt (z ▸ hbm)
      have hbN : N ≠ b := fun z => hNt (z ▸ hbm)
      have xb := (xa.trans x8).mut (xs := xs.take j ++ [V.ref f] ++ xs.drop j) (hnw b hbm) eb8
      have eb9 : (upd H8 b (.lst (xs.take j ++ [V.ref f] ++ xs.drop j))) b = some (.lst (xs.take j ++ [V.ref f] ++ xs.drop j)) := upd_same ..
      have ht9 : AtH (upd H8 b (.lst (xs.take j ++ [V.ref f] ++ xs.drop j))) (ins b j f t) := ins_at xs eb8 eb9 (by rw [upd_ne (Ne.symm (hfa b hbm))]; exact hf8) t ht8 hnd (fun a ha _ => upd_ne ha) hbm
      have eN9 : (upd H8 b (.lst (xs.take j ++ [V.ref f] ++ xs.drop j))) N = some (.lst (ns.map V.ref)) := by rw [upd_ne hbN]; exact eN8
      have eR9 : (upd H8 b (.lst (xs.take j ++ [V.ref f] ++ xs.drop j))) R = some (.lst [.ref r]) := by rw [upd_ne hbR]; exact eR8
      show Ends.nx _ _ (upd H8 b (.lst (xs.take j ++ [V.ref f] ++ xs.drop j)))
      generalize upd H8 b (.lst (xs.take j ++ [V.ref f] ++ xs.drop j)) = H9 at xb ht9 eN9 eR9 ⊢
      have hperm := ins_perm (i := j) (f := f) t hnd hbm
      have hmem9 : ∀ a, a ∈ addrs (ins b j f t) ↔ a = f ∨ a ∈ addrs t := fun a => by rw [hperm.mem_iff, List.mem_cons]
      have hN9 : N ∉ addrs (ins b j f t) := fun h => ((hmem9 N).mp h).elim hfN hNt
      have hR9 : R ∉ addrs (ins b j f t) := fun h => ((hmem9 R).mp h).elim hfR hRt
      refine ⟨_, rfl, .inl ⟨rfl, _, SqL.of eN9⟩, _, rfl, N, _, _, rfl, rfl, eN9, by rw [List.length_map]; exact Nat.lt_of_le_of_lt (show ns.length ≤ 100 by omega) (by decide), xb.mut wN eN9, ins b j f t, ns ++ [f], AtH.frame _ ht9 (fun a ha => upd_ne fun z => hN9 (z ▸ ha)), by rw [ins_root]; exact hroot, ?_, fun a => ?_, by rw [List.length_append, hlen]; rfl, by rw [hperm.length_eq, List.length_cons, hlen2], by rw [upd_same, List.map_append]; rfl, by rw [upd_ne hNR]; exact eR9, hR9, hN9, hNR, fun a ha => ?_, _, _, _, _, rfl⟩
      · rw [hperm.nodup_iff, List.nodup_cons]
        exact ⟨fun h => hfa f h rfl, hnd⟩
      · rw [hmem9, List.mem_append, List.mem_singleton, hmem a]
        exact Or.comm
      · rcases (hmem9 a).mp ha with rfl | ha
        · exact nwf
        · exact hnw a ha
    · intro σ Ha hp
      obtain ⟨xa, t, ns, ht, hroot, hnd, hmem, hlen, hlen2, eN, eR, hRt, hNt, hNR, hnw, t5, t6, t7, t8, rfl⟩ := hp
      obtain ⟨g1, g2, g3⟩ := isT_toOb t
      have ho := AtH.ob (K := K) t ht
      rw [hroot] at ho
      refine ⟨_, rfl, R, _, 0, .ref r, rfl, rfl, SqL.of eR, atI_nat (j := 0) rfl, q Ha _ _ xa ho ?_ g1 ?_ ?_⟩
      · cases t with
        | nd a cs => exact ⟨_, rfl⟩
      · rw [g2]
        omega
      · omega
end
end Tw

set_option maxHeartbeats 4000000
namespace Tw
open PySem PySem.Spec PyProof.Rows L2 LamX
section
variable {P : Program} {w : World} {K : PySem.W.Frag} {mg : Str → Option Value} {base : Heap}
/-! ### a wood -/
def woodF (r : Addr) (l : List Bool) : List (Str × V) := [("row", .ref r), ("wide", .int (nd l.length)), ("lows", .str (sb (pk (lws l) (nd l.length))))]
def WoodAt (K : PySem.W.Frag) (H : Hp) (u : Addr) (l : List Bool) : Prop := okT l ∧ l.length ≤ 2000 ∧ ∃ (r dx : Addr) (n : Int), H u = some (.ins (He.ga K "Wood") dx (woodF r l)) ∧ RowAt K H r l n
theorem noSeen {r : Addr} {l : List Bool} : ∀ fs' n, woodF r l ≠ fs' ++ sn n := fun fs' n h => by
  have h2 := congrArg List.getLast? h
  unfold sn at h2
  rw [List.getLast?_concat] at h2
  have h3 : (some (("lows" : Str), V.str (sb (pk (lws l) (nd l.length)))) : Option (Str × V)) = some (("seen" : Str), V.int n) := h2
  injection h3 with h3
  have h4 := congrArg Prod.snd h3
  cases h4
theorem WoodAt.xt {H H' : Hp} {u : Addr} {l : List Bool} {T : List (Addr × Str)} (h : WoodAt K H u l) (x : Xt T H H') : WoodAt K H' u l := by
  obtain ⟨W, hl, r, dx, n, ew, er⟩ := h
  obtain ⟨n', er'⟩ := er.xt x
  exact ⟨W, hl, r, dx, n', x.ins ew noSeen, er'⟩
/-- a deed with a node: what it tells, by the bits and the node -/
def spNode (K : PySem.W.Frag) (f : List Bool → Nat → V) : Sp := fun vs H Q E => ∃ (u : Addr) (l : List Bool) (p : Int), vs = [.ref u, .int p] ∧ WoodAt K H u l ∧ (∀ j : Nat, p = j → l[j]? = some true → ∀ H', Xt (tK K) H H' → Q (f l j) H') ∧
  ((∀ j : Nat, p = j → ¬ l[j]? = some true) → ∀ H', Xt (tK K) H H' → E (.ref (He.ga K "BadPlace")) none H')
theorem node_len {f : List Bool → Nat → V} {vs : List V} {H : Hp} {Q : VK} {E : XK} (h : spNode K f vs H Q E) : vs.length = 2 := by
  obtain ⟨u, l, p, rfl, _⟩ := h
  rfl
def spNodes (K : PySem.W.Frag) (f : List Bool → Nat → List Nat) : Sp := fun vs H Q E => ∃ (u : Addr) (l : List Bool) (p : Int), vs = [.ref u, .int p] ∧ WoodAt K H u l ∧ (∀ j : Nat, p = j → l[j]? = some true → ∀ H' a, Xt (tK K) H H' → Nw H a → H' a = some (.lst ((f l j).map fun i : Nat => .int i)) → Q (.ref a) H') ∧
  ((∀ j : Nat, p = j → ¬ l[j]? = some true) → ∀ H', Xt (tK K) H H' → E (.ref (He.ga K "BadPlace")) none H')
theorem nodes_len {f : List Bool → Nat → List Nat} {vs : List V} {H : Hp} {Q : VK} {E : XK} (h : spNodes K f vs H Q E) : vs.length = 2 := by
  obtain ⟨u, l, p, rfl, _⟩ := h
  rfl
theorem wood_sz {l : List Bool} (h : l.length ≤ 2000) : (sb l).length ≤ sizeLine := by rw [sb_len]; exact Nat.le_trans h (by decide)
theorem ok_Wood_need (T : Tx K mg) : OkN P w K mg base ("Wood", some "need") 1 ["self", "good"] (spNeed K) := by
  refine T.F_Wood_need.ok sc_Wood_need (fun vs H Q E h => ?_) (fun cdv A outer s H vs Q E hr h => ?_)
  · obtain ⟨r, b, rfl, _⟩ := h
    rfl
  · obtain ⟨r, b, rfl, q1, q2⟩ := h
    refine ⟨_, (pss_one (ps_if (pt_not (pt_val (pv 1)))
    (pss_one (ps_rz T.x_BadPlace rfl (by decide))) pss_nil)), ?_⟩
    cases b with
    | true => exact ⟨_, rfl, true, rfl, iteF (q1 rfl)⟩
    | false => exact ⟨_, rfl, false, rfl, iteT (q2 rfl)⟩
def spWSize (K : PySem.W.Frag) : Sp := fun vs H Q E => ∃ (u : Addr) (l : List Bool), vs = [.ref u] ∧ WoodAt K H u l ∧ Q (.int (l.length / 2 : Nat)) H
theorem ok_Wood_size (T : Tx K mg) : OkN P w K mg base ("Wood", some "size") 2 ["self"] (spWSize K) := by
  refine T.F_Wood_size.ok sc_Wood_size (fun vs H Q E h => ?_) (fun cdv A outer s H vs Q E hr h => ?_)
  · obtain ⟨u, l, rfl, _⟩ := h
    rfl
  · obtain ⟨u, l, rfl, ⟨W, hl, r, dx, n, ew, er⟩, q⟩ := h
    refine ⟨_, (pss_one (ps_ret (pe_op op_fdiv (pe_meth0 (dvs := []) (pe_fldK (K := K) rfl (pv 0) (by rfl)) T.k_Row T.M_Row_size (ok_Row_size T) (hr.mono (by decide)) T.B_Row_size .nil psP) pe_int))), ?_⟩
    exact ⟨_, rfl, u, _, dx, _, _, rfl, ew, T.k_Wood, T.n_Wood_row, rfl, r, _, _, rfl, er.2.choose_spec, rfl, r, l, n, rfl, er, _, _, rfl, rfl, ⟨by decide, by decide⟩, q⟩
theorem ok_Wood_need_node (T : Tx K mg) : OkN P w K mg base ("Wood", some "need_node") 3 ["self", "node"] (spNode K fun _ _ => .non) := by
  refine T.F_Wood_need_node.ok sc_Wood_need_node (fun vs H Q E h => node_len h) (fun cdv A outer s H vs Q E hr h => ?_)
  obtain ⟨u, l, p, rfl, ⟨W, hl, r, dx, n, ew, er⟩, q1, q2⟩ := h
  refine ⟨_, (pss_one (ps_expr (pe_meth (dvs := []) (pv 0) T.k_Wood T.M_Wood_need (ok_Wood_need T) (hr.mono (by decide)) T.B_Wood_need .nil psP (pa_cons (pe_and (pe_chain op_le op_lt pe_int (pv 1) (pe_meth0 (dvs := []) (pe_fldK (K := K) rfl (pv 0) (by rfl)) T.k_Row T.M_Row_size (ok_Row_size T) (hr.mono (by decide)) T.B_Row_size .nil psP)) (pe_one (pe_cmpR op_eq (pe_meth (dvs := []) (pe_fldK (K := K) rfl (pv 0) (by rfl)) T.k_Row T.M_Row_bit (ok_Row_bit T) (hr.mono (by decide)) T.B_Row_bit .nil psP (pa_cons (pv 1) pa_nil)) pe_int (nomark _)))) pa_nil)))), ?_⟩
  have fin : ∀ (b : Bool) H', Xt (tK K) H H' → (b = true → ∃ j : Nat, p = j ∧ l[j]? = some true) → (b = false → ∀ j : Nat, p = j → ¬ l[j]? = some true) → spNeed K [.ref u, .bl b] H' (fun _ H2 => Q .non H2) E := fun b H' x h1 h2 => ⟨u, b, rfl, fun hb => by
    obtain ⟨j, h3, h4⟩ := h1 hb
    exact q1 j h3 h4 H' x, fun hb => q2 (h2 hb) H' x⟩
  refine ⟨_, rfl, u, _, _, rfl, ew, rfl, _, rfl, _, _, rfl, rfl, _, rfl, ite2 (fun h0 => ?_) (fun h0 => ?_)⟩
  · have h0 := of_decide_eq_true h0
    refine ⟨_, rfl, u, _, dx, _, _, rfl, ew, T.k_Wood, T.n_Wood_row, rfl, r, _, _, rfl, er.2.choose_spec, rfl, r, l, n, rfl, er, _, _, rfl, rfl, _, rfl, ite2 (fun h1 => ?_) (fun h1 => ?_)⟩
    · have h1 := of_decide_eq_true h1
      obtain ⟨j, rfl⟩ : ∃ j : Nat, p = j := ⟨p.toNat, by omega⟩
      have hj : l[j]? = some l[j] := List.getElem?_eq_getElem (by omega)
      refine ⟨_, rfl, u, _, dx, _, _, rfl, ew, T.k_Wood, T.n_Wood_row, rfl, r, _, _, rfl, er.2.choose_spec, rfl, _, rfl, r, l, n, _, rfl, er, fun j' b ej hb H1 x1 r1 => ⟨rfl, ?_⟩, fun h => absurd h (by omega)⟩
      obtain rfl : j = j' := by omega
      refine fin _ H1 x1 (fun hb2 => ⟨j, rfl, ?_⟩) (fun hb2 j2 ej2 h2 => ?_)
      · have := V.int.inj (of_decide_eq_true hb2)
        cases b
        · cases this
        · exact hb
      · obtain rfl : j = j2 := by omega
        rw [hb] at h2
        cases h2
        exact absurd hb2 (by decide)
    · refine fin _ H .refl (fun z => by cases z) fun _ j ej h2 => ?_
      have := len_of h2
      simp only [decide_eq_true_eq] at h1
      omega
  · refine ⟨_, rfl, iteF (fin _ H .refl (fun z => by cases z) fun _ j ej h2 => ?_)⟩
    simp only [decide_eq_true_eq] at h0
    omega
def spDeep (K : PySem.W.Frag) : Sp := fun vs H Q E => ∃ (u : Addr) (l : List Bool) (j : Nat), vs = [.ref u, .int j] ∧ WoodAt K H u l ∧ j ≤ l.length ∧ ∀ H', Xt (tK K) H H' → Q (.int (dq l j)) H'
theorem ok_Wood_deep (T : Tx K mg) : OkN P w K mg base ("Wood", some "deep") 6 ["self", "place"] (spDeep K) := by
  refine T.F_Wood_deep.ok sc_Wood_deep (fun vs H Q E h => ?_) (fun cdv A outer s H vs Q E hr h => ?_)
  · obtain ⟨u, l, j, rfl, _⟩ := h
    rfl
  · obtain ⟨u, l, j, rfl, ⟨W, hl, r, dx, n, ew, er⟩, hj, q⟩ := h
    refine ⟨_, (pss_one (ps_ret (pe_op op_sub (pe_op op_mul pe_int (pe_meth (dvs := []) (pe_fldK (K := K) rfl (pv 0) (by rfl)) T.k_Row T.M_Row_ones (ok_Row_ones T) (hr.mono (by decide)) T.B_Row_ones .nil psP (pa_cons (pv 1) pa_nil))) (pv 1)))), ?_⟩
    refine ⟨_, rfl, u, _, dx, _, _, rfl, ew, T.k_Wood, T.n_Wood_row, rfl, r, _, _, rfl, er.2.choose_spec, rfl, _, rfl, r, l, n, _, rfl, er, fun j' ej hj' H1 x1 r1 => ?_, fun h => absurd h (by omega)⟩
    obtain rfl : j = j' := by omega
    refine ⟨_, _, rfl, rfl, .inl ⟨by decide, by decide⟩, _, rfl, _, _, rfl, rfl, ?_⟩
    have := q H1 x1
    rw [dq_cn hj] at this
    exact this
def lowV (l : List Bool) (b : Nat) : V := if b < l.length / 32 then .int (lw l b) else .non
def spLow (K : PySem.W.Frag) : Sp := fun vs H Q E => ∃ (u : Addr) (l : List Bool) (b : Nat), vs = [.ref u, .int b] ∧ WoodAt K H u l ∧ ∀ H', Xt (tK K) H H' → Q (lowV l b) H'
theorem ok_Wood_low (T : Tx K mg) : OkN P w K mg base ("Wood", some "low") 4 ["self", "block"] (spLow K) := by
  refine T.F_Wood_low.ok sc_Wood_low (fun vs H Q E h => ?_) (fun cdv A outer s H vs Q E hr h => ?_)
  · obtain ⟨u, l, b, rfl, _⟩ := h
    rfl
  · obtain ⟨u, l, b, rfl, ⟨W, hl, r, dx, n, ew, er⟩, q⟩ := h
    refine ⟨_, (pss_cons (ps_if (pt_cmpR op_gt (pe_op op_mul (pe_op op_add (pv 1) pe_int) (pe_fldK (K := K) rfl (pv 0) (by rfl))) (pe_callB call_len_str (by rfl) T.z_len b_len (pa_cons (pe_fldK (K := K) rfl (pv 0) (by rfl)) pa_nil)) (nomark _))
    (pss_one (ps_ret pe_non)) pss_nil)
    (pss_one (ps_ret (pe_callS (ok_number_at T) (hr.mono (by decide)) (by rfl) T.g_number_at T.F_number_at.kp T.B_number_at psE (pa_cons (pe_fldK (K := K) rfl (pv 0) (by rfl)) (pa_cons (pe_fldK (K := K) rfl (pv 0) (by rfl)) (pa_cons (pv 1) pa_nil))))))), ?_⟩
    have hw : nd l.length ≤ 13 := (nd_le _ _).mpr (by omega)
    have hw0 : 0 < nd l.length := nd_lo2 (by have := W.pos; omega)
    have hlen : (sb (pk (lws l) (nd l.length))).length = l.length / 32 * nd l.length := by rw [sb_len, pk_len, lws_len]
    have hsz : l.length / 32 * nd l.length ≤ 100000 := Nat.le_trans (Nat.mul_le_mul (show l.length / 32 ≤ 128 by omega) hw) (by decide)
    have ecast : ((b : Int) + 1) * ((nd l.length : Nat) : Int) = (((b + 1) * nd l.length : Nat) : Int) := by rw [Int.natCast_mul]; rfl
    refine ⟨_, rfl, _, _, rfl, rfl, _, rfl, u, _, dx, _, _, rfl, ew, T.k_Wood, T.n_Wood_wide, rfl, _, _, rfl, rfl, .inr ⟨by omega, by omega⟩, _, rfl, u, _, dx, _, _, rfl, ew, T.k_Wood, T.n_Wood_lows, rfl, _, rfl, by rw [hlen]; exact Nat.le_trans hsz (by decide), _, _, rfl, rfl, _, rfl, ite2 (fun h0 => ?_) (fun h0 => ?_)⟩
    · have h0 := of_decide_eq_true h0
      rw [ecast, hlen] at h0
      have hb : ¬ b < l.length / 32 := fun z => by
        have := Nat.mul_le_mul_right (nd l.length) z
        have h1 : (b + 1) * nd l.length ≤ l.length / 32 * nd l.length := this
        omega
      have := q H .refl
      unfold lowV at this
      rw [if_neg hb] at this
      exact this
    · simp only [decide_eq_true_eq] at h0
      rw [ecast, hlen] at h0
      have hb : b < l.length / 32 := by
        rcases Nat.lt_or_ge b (l.length / 32) with h | h
        · exact h
        · have h1 : (l.length / 32 + 1) * nd l.length ≤ (b + 1) * nd l.length := Nat.mul_le_mul_right _ (by omega)
          rw [Nat.succ_mul] at h1
          omega
      have hle : (b + 1) * nd l.length ≤ l.length / 32 * nd l.length := Nat.mul_le_mul_right _ hb
      have hpos : 0 < l.length / 32 * nd l.length := Nat.mul_pos (by omega) hw0
      refine ⟨_, rfl, u, _, dx, _, _, rfl, ew, T.k_Wood, T.n_Wood_lows, rfl, _, rfl, u, _, dx, _, _, rfl, ew, T.k_Wood, T.n_Wood_wide, rfl, _, rfl, _, nd l.length, (b : Int), rfl, by rw [hlen]; exact hsz, by omega, fun l' j e1 g ej hj2 hne H' x' => ?_, fun g => absurd (good_pk _ _) g, fun _ hbad => ?_⟩
      · have e1 := sb_inj e1
        subst e1
        obtain rfl : b = j := by omega
        rw [part_pk _ _ _ _ (lws_get hb), bn_vb_lt ((nd_le _ _).mp (lw_nd W hb))]
        have := q H' x'.up
        unfold lowV at this
        rw [if_pos hb] at this
        exact this
      · exfalso
        rw [hlen, ecast] at hbad
        omega
def spDown (K : PySem.W.Frag) : Sp := fun vs H Q E => ∃ (u : Addr) (l : List Bool) (j : Nat) (d : Int), vs = [.ref u, .int j, .int d] ∧ WoodAt K H u l ∧ j ≤ l.length ∧ ∀ H', Xt (tK K) H H' → Q (on (fd l j d)) H'
theorem ok_Wood_first_down (T : Tx K mg) : OkN P w K mg base ("Wood", some "first_down") 7 ["self", "place", "deep"] (spDown K) := by
  refine T.F_Wood_first_down.ok sc_Wood_first_down (fun vs H Q E h => ?_) (fun cdv A outer s H vs Q E hr h => ?_)
  · obtain ⟨u, l, j, d, rfl, _⟩ := h
    rfl
  · obtain ⟨u, l, j, d, rfl, hw, hj, q⟩ := h
    have hw0 := hw
    obtain ⟨W, hl, r, dx, n, ew, er⟩ := hw
    refine ⟨_, (pss_cons (ps_set (i := 3) sc_Wood_first_down.nd rfl (.inl rfl) (pe_meth (dvs := []) (pv 0) T.k_Wood T.M_Wood_deep (ok_Wood_deep T) (hr.mono (by decide)) T.B_Wood_deep .nil psP (pa_cons (pv 1) pa_nil)))
    (pss_cons (ps_while (passes_of rfl) (pt_cmpR op_lt (pv 1) (pe_meth0 (dvs := []) (pe_fldK (K := K) rfl (pv 0) (by rfl)) T.k_Row T.M_Row_size (ok_Row_size T) (hr.mono (by decide)) T.B_Row_size .nil psP) (nomark _))
    (pss_cons (ps_set (i := 4) sc_Wood_first_down.nd rfl (.inl rfl) (pe_meth (dvs := []) (pv 0) T.k_Wood T.M_Wood_low (ok_Wood_low T) (hr.mono (by decide)) T.B_Wood_low .nil psP (pa_cons (pe_op op_fdivW (pv 1) (pe_glob (v := .int _) (by rfl) T.c_BLOCK.choose_spec ⟨_, rfl⟩)) pa_nil)))
    (pss_one (ps_if (PW.pt (pw_and (pt_cmpR op_eq (pe_op op_mod (pv 1) (pe_glob (v := .int _) (by rfl) T.c_BLOCK.choose_spec ⟨_, rfl⟩)) pe_int (nomark _)) (pw_and (pt_cmpR op_notN (pv 4) pe_non (nomark _)) (pw_and1 (pt_cmpR op_gt (pv 4) (pv 2) (nomark _))))))
    (pss_cons (ps_set (i := 1) sc_Wood_first_down.nd rfl (.inl rfl) (pe_op op_add (pv 1) (pe_glob (v := .int _) (by rfl) T.c_BLOCK.choose_spec ⟨_, rfl⟩)))
    (pss_one (ps_set (i := 3) sc_Wood_first_down.nd rfl (.inl rfl) (pe_meth (dvs := []) (pv 0) T.k_Wood T.M_Wood_deep (ok_Wood_deep T) (hr.mono (by decide)) T.B_Wood_deep .nil psP (pa_cons (pv 1) pa_nil))))) (pss_cons (ps_set (i := 3) sc_Wood_first_down.nd rfl (.inl rfl) (pe_op op_sub (pe_op op_add (pv 3) (pe_op op_mul pe_int (pe_meth (dvs := []) (pe_fldK (K := K) rfl (pv 0) (by rfl)) T.k_Row T.M_Row_bit (ok_Row_bit T) (hr.mono (by decide)) T.B_Row_bit .nil psP (pa_cons (pv 1) pa_nil)))) pe_int))
    (pss_cons (ps_if (pt_cmpR op_eq (pv 3) (pv 2) (nomark _))
    (pss_one (ps_ret (pv 1))) pss_nil)
    (pss_one (ps_set (i := 1) sc_Wood_first_down.nd rfl (.inl rfl) (pe_op op_add (pv 1) pe_int)))))))))
    (pss_one (ps_ret pe_non)))), ?_⟩
    refine ⟨_, rfl, u, _, _, rfl, ew, rfl, _, rfl, u, l, j, rfl, hw0, hj, fun H1 x1 => ?_⟩
    refine ⟨fun k σ H' => ∃ (i : Nat) (t : Option V), i + k = l.length ∧ j ≤ i ∧ Xt (tK K) H H' ∧ (∀ c, j ≤ c → c < i → dq l (c + 1) ≠ d) ∧ σ = [some (.ref u), some (.int i), some (.int d), some (.int (dq l i)), t], ⟨l.length - j, j, none, by omega, Nat.le_refl _, x1, fun c h1 h2 => by omega, rfl⟩, fun k σ H' hW => ?_⟩
    obtain ⟨i, t, hk, hji, x2, hno, rfl⟩ := hW
    have hw2 := hw0.xt x2
    obtain ⟨_, _, r, dx, n, ew, er⟩ := hw2
    refine ⟨_, rfl, _, rfl, u, _, dx, _, _, rfl, ew, T.k_Wood, T.n_Wood_row, rfl, r, _, _, rfl, er.2.choose_spec, rfl, r, l, n, rfl, er, _, _, rfl, rfl, _, rfl, ite2 (fun h0 => ?_) (fun h0 => ?_)⟩
    rotate_left
    · simp only [decide_eq_true_eq] at h0
      have := q H' x2
      rw [fd_none fun c h1 h2 => hno c h1 (by omega)] at this
      exact this
    have h0 := of_decide_eq_true h0
    have hi : i < l.length := by omega
    refine ⟨fun σ' H'' => ∃ m', m' < k ∧ ∃ (i : Nat) (t : Option V), i + m' = l.length ∧ j ≤ i ∧ Xt (tK K) H H'' ∧ (∀ c, j ≤ c → c < i → dq l (c + 1) ≠ d) ∧ σ' = [some (.ref u), some (.int i), some (.int d), some (.int (dq l i)), t], fun _ _ h => h, ?_⟩
    have e32 : ((i : Int) / 32) = ((i / 32 : Nat) : Int) := by omega
    refine ⟨_, rfl, u, _, _, rfl, ew, rfl, _, rfl, _, _, rfl, rfl, wide_div (b := 6) (by decide) (by decide) (by decide) (by decide), u, l, i / 32, ?_, hw0.xt x2, fun H3 x3 => ?_⟩
    · show [V.ref u, V.int ((i : Int) / 32)] = _
      rw [e32]
    have hw3 := (hw0.xt x2).xt x3
    have x3 := x2.trans x3
    have hw3' := hw3
    obtain ⟨_, _, r, dx, n, ew, er⟩ := hw3
    generalize hlv : lowV l (i / 32) = lv
    apply via (P := fun H' => Xt (tK K) H3 H')
    · intro rest
      refine ⟨_, rfl, _, _, rfl, rfl, (show (0 : Int) < 32 by decide), rfl, _, rfl, ite2 (fun h1 => ?_) (fun _ => iteF (rest _ .refl))⟩
      have h1 : (i : Int) % 32 = 0 := V.int.inj (of_decide_eq_true h1)
      by_cases hb : i / 32 < l.length / 32
      · obtain rfl : V.int (lw l (i / 32)) = lv := by rw [← hlv]; exact (if_pos hb).symm
        refine ⟨_, rfl, rfl, _, rfl, iteT ⟨_, rfl, _, rfl, _, _, rfl, rfl, _, rfl, ite2 (fun h2 => ?_) (fun _ => rest _ .refl)⟩⟩
        have h2 := of_decide_eq_true h2
        refine ⟨_, rfl, _, _, rfl, rfl, _, rfl, u, _, _, rfl, ew, rfl, _, rfl, u, l, i + 32, rfl, hw3', by omega, fun H4 x4 => ⟨k - 32, by omega, i + 32, _, by omega, by omega, x3.trans x4, fun c h3 h4 => ?_, rfl⟩⟩
        rcases Nat.lt_or_ge c i with h5 | h5
        · exact hno c h3 h5
        · have h6 := (lw_le W hb).2 (c - i) (by omega)
          rw [show i / 32 * 32 + (c - i) + 1 = c + 1 by omega] at h6
          omega
      · obtain rfl : V.non = lv := by rw [← hlv]; exact (if_neg hb).symm
        exact ⟨_, rfl, rfl, _, rfl, iteF (iteF (rest _ .refl))⟩
    intro H4 x4
    have hw4 := hw3'.xt x4
    have x4 := x3.trans x4
    obtain ⟨_, _, r, dx, n, ew, er⟩ := hw4
    have hbi : l[i]? = some l[i] := List.getElem?_eq_getElem hi
    refine ⟨_, rfl, _, rfl, u, _, dx, _, _, rfl, ew, T.k_Wood, T.n_Wood_row, rfl, r, _, _, rfl, er.2.choose_spec, rfl, _, rfl, r, l, n, _, rfl, er, fun i' b ei hb H5 x5 r5 => ?_, fun h => absurd h (by omega)⟩
    obtain rfl : i = i' := by omega
    have x5 := x4.trans x5
    refine ⟨_, _, rfl, rfl, .inl ⟨by decide, by decide⟩, _, _, rfl, rfl, _, _, rfl, rfl, ?_⟩
    show gName 3 (V.int (dq l i + 2 * (b.toNat : Int) - 1)) _ _ _
    rw [← dq_succ hb]
    refine ⟨_, rfl, _, rfl, rfl, _, rfl, ite2 (fun h2 => ?_) (fun h2 => ?_)⟩
    · have h2 := V.int.inj (of_decide_eq_true h2)
      have := q H5 x5
      rw [fd_some hji hi h2 hno] at this
      exact ⟨_, rfl, this⟩
    · have h2 : dq l (i + 1) ≠ d := fun z => h2 (decide_eq_true (congrArg V.int z))
      refine ⟨_, rfl, _, _, rfl, rfl, k - 1, by omega, i + 1, _, by omega, by omega, x5, fun c h3 h4 => ?_, rfl⟩
      by_cases hc : c = i
      · rw [hc]; exact h2
      · exact hno c h3 (by omega)
def spLastAt (K : PySem.W.Frag) : Sp := fun vs H Q E => ∃ (u : Addr) (l : List Bool) (j : Nat) (d : Int), vs = [.ref u, .int j, .int d] ∧ WoodAt K H u l ∧ j ≤ l.length ∧ ∀ H', Xt (tK K) H H' → Q (on (la l j d)) H'
theorem ok_Wood_last_at (T : Tx K mg) : OkN P w K mg base ("Wood", some "last_at") 7 ["self", "place", "deep"] (spLastAt K) := by
  refine T.F_Wood_last_at.ok sc_Wood_last_at (fun vs H Q E h => ?_) (fun cdv A outer s H vs Q E hr h => ?_)
  · obtain ⟨u, l, j, d, rfl, _⟩ := h
    rfl
  · obtain ⟨u, l, j, d, rfl, hw, hj, q⟩ := h
    have ⟨W, hl, r, dx, n, ew, er⟩ := hw
    refine ⟨_, (pss_cons (ps_set (i := 3) sc_Wood_last_at.nd rfl (.inl rfl) (pe_meth (dvs := []) (pv 0) T.k_Wood T.M_Wood_deep (ok_Wood_deep T) (hr.mono (by decide)) T.B_Wood_deep .nil psP (pa_cons (pv 1) pa_nil)))
    (pss_cons (ps_while (passes_of rfl) (pt_cmpR op_gt (pv 1) pe_int (nomark _))
    (pss_cons (ps_if (PW.pt (pw_and (pt_cmpR op_eq (pe_op op_mod (pv 1) (pe_glob (v := .int _) (by rfl) T.c_BLOCK.choose_spec ⟨_, rfl⟩)) pe_int (nomark _)) (pw_and1 (pt_cmpR op_gt (pe_meth (dvs := []) (pv 0) T.k_Wood T.M_Wood_low (ok_Wood_low T) (hr.mono (by decide)) T.B_Wood_low .nil psP (pa_cons (pe_op op_sub (pe_op op_fdivW (pv 1) (pe_glob (v := .int _) (by rfl) T.c_BLOCK.choose_spec ⟨_, rfl⟩)) pe_int) pa_nil)) (pv 2) (nomark _)))))
    (pss_cons (ps_set (i := 1) sc_Wood_last_at.nd rfl (.inl rfl) (pe_op op_sub (pv 1) (pe_glob (v := .int _) (by rfl) T.c_BLOCK.choose_spec ⟨_, rfl⟩)))
    (pss_one (ps_set (i := 3) sc_Wood_last_at.nd rfl (.inl rfl) (pe_meth (dvs := []) (pv 0) T.k_Wood T.M_Wood_deep (ok_Wood_deep T) (hr.mono (by decide)) T.B_Wood_deep .nil psP (pa_cons (pv 1) pa_nil))))) (pss_cons (ps_set (i := 1) sc_Wood_last_at.nd rfl (.inl rfl) (pe_op op_sub (pv 1) pe_int))
    (pss_one (ps_set (i := 3) sc_Wood_last_at.nd rfl (.inl rfl) (pe_op op_sub (pe_op op_add (pv 3) pe_int) (pe_op op_mul pe_int (pe_meth (dvs := []) (pe_fldK (K := K) rfl (pv 0) (by rfl)) T.k_Row T.M_Row_bit (ok_Row_bit T) (hr.mono (by decide)) T.B_Row_bit .nil psP (pa_cons (pv 1) pa_nil))))))))
    (pss_one (ps_if (pt_cmpR op_eq (pv 3) (pv 2) (nomark _))
    (pss_one (ps_ret (pv 1))) pss_nil))))
    (pss_one (ps_ret pe_non)))), ?_⟩
    refine ⟨_, rfl, u, _, _, rfl, ew, rfl, _, rfl, u, l, j, rfl, hw, hj, fun H1 x1 => ?_⟩
    refine ⟨fun i σ H' => i ≤ j ∧ Xt (tK K) H H' ∧ (∀ c, i ≤ c → c < j → dq l c ≠ d) ∧ σ = [some (.ref u), some (.int i), some (.int d), some (.int (dq l i))], ⟨j, Nat.le_refl _, x1, fun c h1 h2 => by omega, rfl⟩, fun i σ H' hW => ?_⟩
    obtain ⟨hij, x2, hno, rfl⟩ := hW
    have hw2 := hw.xt x2
    have ⟨_, _, r, dx, n, ew, er⟩ := hw2
    refine ⟨_, rfl, _, _, rfl, rfl, _, rfl, ite2 (fun h0 => ?_) (fun h0 => ?_)⟩
    rotate_left
    · simp only [decide_eq_true_eq] at h0
      have := q H' x2
      rw [la_none fun c h1 => hno c (by omega) h1] at this
      exact this
    have h0 := of_decide_eq_true h0
    have hi : 0 < i := by omega
    refine ⟨fun σ' H'' => ∃ m', m' < i ∧ m' ≤ j ∧ Xt (tK K) H H'' ∧ (∀ c, m' ≤ c → c < j → dq l c ≠ d) ∧ σ' = [some (.ref u), some (.int m'), some (.int d), some (.int (dq l m'))], fun _ _ h => h, ?_⟩
    apply via (P := fun H3 => Xt (tK K) H' H3)
    · intro rest
      refine ⟨_, rfl, _, _, rfl, rfl, (show (0 : Int) < 32 by decide), rfl, _, rfl, ite2 (fun h1 => ?_) (fun _ => iteF (rest _ .refl))⟩
      have h1 : (i : Int) % 32 = 0 := V.int.inj (of_decide_eq_true h1)
      have hb : i / 32 - 1 < l.length / 32 := by omega
      refine ⟨_, rfl, u, _, _, rfl, ew, rfl, _, rfl, _, _, rfl, rfl, wide_div (b := 6) (by decide) (by decide) (by decide) (by decide), _, _, rfl, rfl, u, l, i / 32 - 1, ?_, hw2, fun H3 x3 => ?_⟩
      · show [V.ref u, V.int ((i : Int) / 32 - 1)] = _
        rw [show ((i : Int) / 32 - 1) = ((i / 32 - 1 : Nat) : Int) by omega]
      rw [show lowV l (i / 32 - 1) = .int (lw l (i / 32 - 1)) from if_pos hb]
      refine ⟨_, rfl, _, _, rfl, rfl, _, rfl, ite2 (fun h2 => ?_) (fun _ => rest H3 x3)⟩
      have h2 := of_decide_eq_true h2
      have hw3 := hw2.xt x3
      have x3 := x2.trans x3
      have ⟨_, _, r, dx, n, ew, er⟩ := hw3
      refine ⟨_, rfl, _, _, rfl, rfl, _, rfl, u, _, _, rfl, ew, rfl, _, rfl, u, l, i - 32, ?_, hw3, by omega, fun H4 x4 => ?_⟩
      · show [V.ref u, V.int ((i : Int) - 32)] = _
        rw [show ((i : Int) - 32) = ((i - 32 : Nat) : Int) by omega]
      have hno2 : ∀ c, i - 32 < c → c < i → dq l c ≠ d := fun c h3 h4 => by
        have h6 := (lw_le W hb).2 (c - (i - 32) - 1) (by omega)
        rw [show (i / 32 - 1) * 32 + (c - (i - 32) - 1) + 1 = c by omega] at h6
        omega
      refine ⟨_, rfl, _, rfl, rfl, _, rfl, ite2 (fun h3 => ?_) (fun h3 => ?_)⟩
      · have h3 := V.int.inj (of_decide_eq_true h3)
        have := q H4 (x3.trans x4)
        rw [la_some (show i - 32 < j by omega) h3 fun c h4 h5 => (Nat.lt_or_ge c i).elim (hno2 c h4) fun h6 => hno c h6 h5] at this
        refine ⟨_, rfl, ?_⟩
        show Q (V.int ((i : Int) - 32)) H4
        rw [show ((i : Int) - 32) = ((i - 32 : Nat) : Int) by omega]
        exact this
      · have h3 : dq l (i - 32) ≠ d := fun z => h3 (decide_eq_true (congrArg V.int z))
        refine ⟨i - 32, by omega, by omega, x3.trans x4, fun c h4 h5 => ?_, ?_⟩
        · rcases Nat.lt_or_ge c i with h6 | h6
          · by_cases h7 : c = i - 32
            · rw [h7]; exact h3
            · exact hno2 c (by omega) h6
          · exact hno c h6 h5
        · rw [show ((i - 32 : Nat) : Int) = (i : Int) - 32 by omega]
          rfl
    intro H3 x3
    have hw3 := hw2.xt x3
    have x3 := x2.trans x3
    have ⟨_, _, r, dx, n, ew, er⟩ := hw3
    refine ⟨_, rfl, _, _, rfl, rfl, ?_⟩
    show gName 1 (V.int ((i : Int) - 1)) _ _ _
    rw [show ((i : Int) - 1) = ((i - 1 : Nat) : Int) by omega]
    refine ⟨_, rfl, _, _, rfl, rfl, _, rfl, u, _, dx, _, _, rfl, ew, T.k_Wood, T.n_Wood_row, rfl, r, _, _, rfl, er.2.choose_spec, rfl, _, rfl, r, l, n, _, rfl, er, fun i' b ei hb H4 x4 r4 => ?_, fun h => absurd h (by omega)⟩
    obtain rfl : i' = i - 1 := by omega
    have x4 := x3.trans x4
    refine ⟨_, _, rfl, rfl, .inl ⟨by decide, by decide⟩, _, _, rfl, rfl, ?_⟩
    have ed := dq_succ hb
    rw [show i - 1 + 1 = i by omega] at ed
    show gName 3 (V.int (dq l i + 1 - 2 * (b.toNat : Int))) _ _ _
    rw [show dq l i + 1 - 2 * (b.toNat : Int) = dq l (i - 1) by omega]
    refine ⟨_, rfl, _, rfl, rfl, _, rfl, ite2 (fun h3 => ?_) (fun h3 => ?_)⟩
    · have h3 := V.int.inj (of_decide_eq_true h3)
      have := q H4 x4
      rw [la_some (show i - 1 < j by omega) h3 fun c h4 h5 => hno c (by omega) h5] at this
      exact ⟨_, rfl, this⟩
    · have h3 : dq l (i - 1) ≠ d := fun z => h3 (decide_eq_true (congrArg V.int z))
      refine ⟨i - 1, by omega, by omega, x4, fun c h4 h5 => ?_, rfl⟩
      by_cases h7 : c = i - 1
      · rw [h7]; exact h3
      · exact hno c (by omega) h5
def spWNode (K : PySem.W.Frag) : Sp := fun vs H Q E => ∃ (u : Addr) (l : List Bool) (a : Int), vs = [.ref u, .int a] ∧ WoodAt K H u l ∧ (∀ j : Nat, a = j → j < l.length / 2 → ∀ H', Xt (tK K) H H' → Q (on (pos true l)[j]?) H') ∧ ((a < 0 ∨ ((l.length / 2 : Nat) : Int) ≤ a) → ∀ H', Xt (tK K) H H' → E (.ref (He.ga K "BadPlace")) none H')
theorem ok_Wood_node (T : Tx K mg) : OkN P w K mg base ("Wood", some "node") 8 ["self", "number"] (spWNode K) := by
  refine T.F_Wood_node.ok sc_Wood_node (fun vs H Q E h => ?_) (fun cdv A outer s H vs Q E hr h => ?_)
  · obtain ⟨u, l, a, rfl, _⟩ := h
    rfl
  · obtain ⟨u, l, a, rfl, hw, q1, q2⟩ := h
    have ⟨W, hl, r, dx, n, ew, er⟩ := hw
    refine ⟨_, (pss_cons (ps_expr (pe_meth (dvs := []) (pv 0) T.k_Wood T.M_Wood_need (ok_Wood_need T) (hr.mono (by decide)) T.B_Wood_need .nil psP (pa_cons (pe_chain op_le op_lt pe_int (pv 1) (pe_meth0 (dvs := []) (pv 0) T.k_Wood T.M_Wood_size (ok_Wood_size T) (hr.mono (by decide)) T.B_Wood_size .nil psP)) pa_nil)))
    (pss_one (ps_ret (pe_meth (dvs := []) (pe_fldK (K := K) rfl (pv 0) (by rfl)) T.k_Row T.M_Row_one_at (ok_Row_one_at T) (hr.mono (by decide)) T.B_Row_one_at .nil psP (pa_cons (pv 1) pa_nil))))), ?_⟩
    refine ⟨_, rfl, u, _, _, rfl, ew, rfl, _, rfl, _, _, rfl, rfl, _, rfl, ite2 (fun h0 => ?_) (fun h0 => ?_)⟩
    · have h0 := of_decide_eq_true h0
      obtain ⟨j, rfl⟩ : ∃ j : Nat, a = j := ⟨a.toNat, by omega⟩
      refine ⟨_, rfl, u, _, _, rfl, ew, rfl, u, l, rfl, hw, _, _, rfl, rfl, u, _, rfl, fun h1 => ?_, fun h1 => q2 (.inr (by have := of_decide_eq_false h1; omega)) H .refl⟩
      have h1 := of_decide_eq_true h1
      exact ⟨_, rfl, u, _, dx, _, _, rfl, ew, T.k_Wood, T.n_Wood_row, rfl, r, _, _, rfl, er.2.choose_spec, rfl, _, rfl, r, l, n, _, rfl, er, fun j' m ej H1 x1 r1 _ _ => by
        obtain rfl : j = j' := by omega
        exact q1 j rfl (by omega) H1 x1, fun h => absurd h (by omega)⟩
    · simp only [decide_eq_true_eq] at h0
      exact ⟨u, false, rfl, fun z => (by cases z), fun _ => q2 (.inl (by omega)) H .refl⟩
theorem ok_Wood_number (T : Tx K mg) : OkN P w K mg base ("Wood", some "number") 6 ["self", "node"] (spNode K fun l j => .int (cn true l j)) := by
  refine T.F_Wood_number.ok sc_Wood_number (fun vs H Q E h => node_len h) (fun cdv A outer s H vs Q E hr h => ?_)
  obtain ⟨u, l, p, rfl, hw, q1, q2⟩ := h
  have ⟨W, hl, r, dx, n, ew, er⟩ := hw
  refine ⟨_, (pss_cons (ps_expr (pe_meth (dvs := []) (pv 0) T.k_Wood T.M_Wood_need_node (ok_Wood_need_node T) (hr.mono (by decide)) T.B_Wood_need_node .nil psP (pa_cons (pv 1) pa_nil)))
    (pss_one (ps_ret (pe_meth (dvs := []) (pe_fldK (K := K) rfl (pv 0) (by rfl)) T.k_Row T.M_Row_ones (ok_Row_ones T) (hr.mono (by decide)) T.B_Row_ones .nil psP (pa_cons (pv 1) pa_nil))))), ?_⟩
  refine ⟨_, rfl, u, _, _, rfl, ew, rfl, _, rfl, u, l, p, rfl, hw, fun j ej hj H1 x1 => ?_, fun h H1 x1 => q2 h H1 x1⟩
  subst ej
  have hw1 := hw.xt x1
  have ⟨_, _, r, dx, n, ew, er⟩ := hw1
  exact ⟨_, rfl, u, _, dx, _, _, rfl, ew, T.k_Wood, T.n_Wood_row, rfl, r, _, _, rfl, er.2.choose_spec, rfl, _, rfl, r, l, n, _, rfl, er, fun j' ej _ H2 x2 r2 => by
    obtain rfl : j = j' := by omega
    exact q1 j rfl hj H2 (x1.trans x2), fun h => absurd h (by have := len_of hj; omega)⟩
theorem ok_Wood_end (T : Tx K mg) : OkN P w K mg base ("Wood", some "end") 8 ["self", "node"] (spNode K fun l j => .int (en l j)) := by
  refine T.F_Wood_end.ok sc_Wood_end (fun vs H Q E h => node_len h) (fun cdv A outer s H vs Q E hr h => ?_)
  obtain ⟨u, l, p, rfl, hw, q1, q2⟩ := h
  have ⟨W, hl, r, dx, n, ew, er⟩ := hw
  refine ⟨_, (pss_cons (ps_expr (pe_meth (dvs := []) (pv 0) T.k_Wood T.M_Wood_need_node (ok_Wood_need_node T) (hr.mono (by decide)) T.B_Wood_need_node .nil psP (pa_cons (pv 1) pa_nil)))
    (pss_one (ps_ret (pe_meth (dvs := []) (pv 0) T.k_Wood T.M_Wood_first_down (ok_Wood_first_down T) (hr.mono (by decide)) T.B_Wood_first_down .nil psP (pa_cons (pv 1) (pa_cons (pe_meth (dvs := []) (pv 0) T.k_Wood T.M_Wood_deep (ok_Wood_deep T) (hr.mono (by decide)) T.B_Wood_deep .nil psP (pa_cons (pv 1) pa_nil)) pa_nil)))))), ?_⟩
  refine ⟨_, rfl, u, _, _, rfl, ew, rfl, _, rfl, u, l, p, rfl, hw, fun j ej hj H1 x1 => ?_, fun h H1 x1 => q2 h H1 x1⟩
  subst ej
  have hle := Nat.le_of_lt (len_of hj)
  have hw1 := hw.xt x1
  have ⟨_, _, r, dx, n, ew, er⟩ := hw1
  refine ⟨_, rfl, u, _, _, rfl, ew, rfl, _, rfl, _, rfl, u, _, _, rfl, ew, rfl, _, rfl, u, l, j, rfl, hw1, hle, fun H2 x2 => ⟨u, l, j, _, rfl, hw1.xt x2, hle, fun H3 x3 => ?_⟩⟩
  rw [(ends_en W hj).fd]
  exact q1 j rfl hj H3 (x1.trans (x2.trans x3))
theorem ok_Wood_depth (T : Tx K mg) : OkN P w K mg base ("Wood", some "depth") 7 ["self", "node"] (spNode K fun l j => .int (dq l j)) := by
  refine T.F_Wood_depth.ok sc_Wood_depth (fun vs H Q E h => node_len h) (fun cdv A outer s H vs Q E hr h => ?_)
  obtain ⟨u, l, p, rfl, hw, q1, q2⟩ := h
  have ⟨W, hl, r, dx, n, ew, er⟩ := hw
  refine ⟨_, (pss_cons (ps_expr (pe_meth (dvs := []) (pv 0) T.k_Wood T.M_Wood_need_node (ok_Wood_need_node T) (hr.mono (by decide)) T.B_Wood_need_node .nil psP (pa_cons (pv 1) pa_nil)))
    (pss_one (ps_ret (pe_meth (dvs := []) (pv 0) T.k_Wood T.M_Wood_deep (ok_Wood_deep T) (hr.mono (by decide)) T.B_Wood_deep .nil psP (pa_cons (pv 1) pa_nil))))), ?_⟩
  refine ⟨_, rfl, u, _, _, rfl, ew, rfl, _, rfl, u, l, p, rfl, hw, fun j ej hj H1 x1 => ?_, fun h H1 x1 => q2 h H1 x1⟩
  subst ej
  have hw1 := hw.xt x1
  have ⟨_, _, r, dx, n, ew, er⟩ := hw1
  exact ⟨_, rfl, u, _, _, rfl, ew, rfl, _, rfl, u, l, j, rfl, hw1, Nat.le_of_lt (len_of hj), fun H2 x2 => q1 j rfl hj H2 (x1.trans x2)⟩
theorem ok_Wood_many (T : Tx K mg) : OkN P w K mg base ("Wood", some "many") 9 ["self", "node"] (spNode K fun l j => .int (many l j)) := by
  refine T.F_Wood_many.ok sc_Wood_many (fun vs H Q E h => node_len h) (fun cdv A outer s H vs Q E hr h => ?_)
  obtain ⟨u, l, p, rfl, hw, q1, q2⟩ := h
  have ⟨W, hl, r, dx, n, ew, er⟩ := hw
  refine ⟨_, (pss_one (ps_ret (pe_op op_fdiv (pe_op op_sub (pe_op op_add (pe_meth (dvs := []) (pv 0) T.k_Wood T.M_Wood_end (ok_Wood_end T) (hr.mono (by decide)) T.B_Wood_end .nil psP (pa_cons (pv 1) pa_nil)) pe_int) (pv 1)) pe_int))), ?_⟩
  refine ⟨_, rfl, u, _, _, rfl, ew, rfl, _, rfl, u, l, p, rfl, hw, fun j ej hj H1 x1 => ?_, fun h H1 x1 => q2 h H1 x1⟩
  subst ej
  have h2 := (ends_en W hj).lt
  refine ⟨_, _, rfl, rfl, _, rfl, _, _, rfl, rfl, _, _, rfl, rfl, ⟨by decide, by decide⟩, ?_⟩
  have : Q (.int (((en l j + 1 - j) / 2 : Nat) : Int)) H1 := q1 j rfl hj H1 x1
  rw [show ((((en l j + 1 - j) / 2 : Nat)) : Int) = ((en l j : Int) + 1 - (j : Int)) / 2 by omega] at this
  exact this
def spAbove (K : PySem.W.Frag) : Sp := fun vs H Q E => ∃ (u : Addr) (l : List Bool) (p s : Int), vs = [.ref u, .int p, .int s] ∧ WoodAt K H u l ∧ (∀ j k : Nat, p = j → s = k → l[j]? = some true → ∀ H', Xt (tK K) H H' → Q (on (ab l j k)) H') ∧
  (((∀ j : Nat, p = j → ¬ l[j]? = some true) ∨ s < 0) → ∀ H', Xt (tK K) H H' → E (.ref (He.ga K "BadPlace")) none H')
theorem ok_Wood_above (T : Tx K mg) : OkN P w K mg base ("Wood", some "above") 8 ["self", "node", "steps"] (spAbove K) := by
  refine T.F_Wood_above.ok sc_Wood_above (fun vs H Q E h => ?_) (fun cdv A outer s H vs Q E hr h => ?_)
  · obtain ⟨u, l, p, s, rfl, _⟩ := h
    rfl
  · obtain ⟨u, l, p, st, rfl, hw, q1, q2⟩ := h
    have ⟨W, hl, r, dx, n, ew, er⟩ := hw
    refine ⟨_, (pss_cons (ps_expr (pe_meth (dvs := []) (pv 0) T.k_Wood T.M_Wood_need_node (ok_Wood_need_node T) (hr.mono (by decide)) T.B_Wood_need_node .nil psP (pa_cons (pv 1) pa_nil)))
    (pss_cons (ps_expr (pe_meth (dvs := []) (pv 0) T.k_Wood T.M_Wood_need (ok_Wood_need T) (hr.mono (by decide)) T.B_Wood_need .nil psP (pa_cons (pe_cmpR op_ge (pv 2) pe_int (nomark _)) pa_nil)))
    (pss_cons (ps_if (pt_cmpR op_eq (pv 2) pe_int (nomark _))
    (pss_one (ps_ret (pv 1))) pss_nil)
    (pss_cons (ps_if (pt_cmpR op_gt (pv 2) (pe_meth (dvs := []) (pv 0) T.k_Wood T.M_Wood_deep (ok_Wood_deep T) (hr.mono (by decide)) T.B_Wood_deep .nil psP (pa_cons (pv 1) pa_nil)) (nomark _))
    (pss_one (ps_ret pe_non)) pss_nil)
    (pss_one (ps_ret (pe_meth (dvs := []) (pv 0) T.k_Wood T.M_Wood_last_at (ok_Wood_last_at T) (hr.mono (by decide)) T.B_Wood_last_at .nil psP (pa_cons (pv 1) (pa_cons (pe_op op_sub (pe_meth (dvs := []) (pv 0) T.k_Wood T.M_Wood_deep (ok_Wood_deep T) (hr.mono (by decide)) T.B_Wood_deep .nil psP (pa_cons (pv 1) pa_nil)) (pv 2)) pa_nil))))))))), ?_⟩
    refine ⟨_, rfl, u, _, _, rfl, ew, rfl, _, rfl, u, l, p, rfl, hw, fun j ej hj H1 x1 => ?_, fun h H1 x1 => q2 (.inl h) H1 x1⟩
    subst ej
    have hw1 := hw.xt x1
    have ⟨_, _, r, dx, n, ew, er⟩ := hw1
    refine ⟨_, rfl, u, _, _, rfl, ew, rfl, _, rfl, _, _, rfl, rfl, u, _, rfl, fun h0 => ?_, fun h0 => q2 (.inr (by have := of_decide_eq_false h0; omega)) H1 x1⟩
    have h0 := of_decide_eq_true h0
    obtain ⟨k, rfl⟩ : ∃ k : Nat, st = k := ⟨st.toNat, by omega⟩
    have hle := Nat.le_of_lt (len_of hj)
    have hsl := stk_len W hle
    have q1 := q1 j k rfl rfl hj
    refine ⟨_, rfl, rfl, _, rfl, ite2 (fun h1 => ?_) (fun h1 => ?_)⟩
    · have h1 := V.int.inj (of_decide_eq_true h1)
      have h2 : ab l j k = some j := if_pos (by omega)
      rw [h2] at q1
      exact ⟨_, rfl, q1 H1 x1⟩
    have h1 : k ≠ 0 := fun z => h1 (decide_eq_true (by rw [z]; rfl))
    refine ⟨_, rfl, _, rfl, u, _, _, rfl, ew, rfl, _, rfl, u, l, j, rfl, hw1, hle, fun H2 x2 => ⟨_, _, rfl, rfl, _, rfl, ite2 (fun h2 => ?_) (fun h2 => ?_)⟩⟩
    · have h2 := of_decide_eq_true h2
      have h3 : ab l j k = none := by
        unfold ab
        rw [if_neg h1, if_pos (by omega)]
      rw [h3] at q1
      exact q1 H2 (x1.trans x2)
    simp only [decide_eq_true_eq] at h2
    have hw2 := hw1.xt x2
    have ⟨_, _, r, dx, n, ew, er⟩ := hw2
    refine ⟨_, rfl, u, _, _, rfl, ew, rfl, _, rfl, _, rfl, u, _, _, rfl, ew, rfl, _, rfl, u, l, j, rfl, hw2, hle, fun H3 x3 => ⟨_, rfl, _, _, rfl, rfl, u, l, j, _, rfl, hw2.xt x3, hle, fun H4 x4 => ?_⟩⟩
    have hx : (stk l j).length - k < (stk l j).length := by omega
    have h3 : ab l j k = some ((stk l j)[(stk l j).length - k]) := by
      unfold ab
      rw [if_neg h1, if_neg (by omega), List.getElem?_eq_getElem hx]
    rw [h3] at q1
    have h4 := stk_la W (List.getElem?_eq_getElem hx) hle
    rw [show dq l j - (k : Int) = (((stk l j).length - k : Nat) : Int) by omega, h4]
    exact q1 H4 (x1.trans (x2.trans (x3.trans x4)))
theorem ok_Wood_parent (T : Tx K mg) : OkN P w K mg base ("Wood", some "parent") 9 ["self", "node"] (spNode K fun l j => on (up l j)) := by
  refine T.F_Wood_parent.ok sc_Wood_parent (fun vs H Q E h => node_len h) (fun cdv A outer s H vs Q E hr h => ?_)
  obtain ⟨u, l, p, rfl, hw, q1, q2⟩ := h
  have ⟨W, hl, r, dx, n, ew, er⟩ := hw
  refine ⟨_, (pss_one (ps_ret (pe_meth (dvs := []) (pv 0) T.k_Wood T.M_Wood_above (ok_Wood_above T) (hr.mono (by decide)) T.B_Wood_above .nil psP (pa_cons (pv 1) (pa_cons pe_int pa_nil))))), ?_⟩
  refine ⟨_, rfl, u, _, _, rfl, ew, rfl, _, rfl, u, l, p, 1, rfl, hw, fun j k ej ek hj H1 x1 => ?_, fun h H1 x1 => q2 (h.resolve_right (by decide)) H1 x1⟩
  obtain rfl : k = 1 := by omega
  have := q1 j ej hj H1 x1
  rw [ab_one]
  exact this
theorem ok_Wood_next_child (T : Tx K mg) : OkN P w K mg base ("Wood", some "next_child") 9 ["self", "node"] (spNode K fun l j => on (nx l j)) := by
  refine T.F_Wood_next_child.ok sc_Wood_next_child (fun vs H Q E h => node_len h) (fun cdv A outer s H vs Q E hr h => ?_)
  obtain ⟨u, l, p, rfl, hw, q1, q2⟩ := h
  have ⟨W, hl, r, dx, n, ew, er⟩ := hw
  refine ⟨_, (pss_cons (ps_set (i := 2) sc_Wood_next_child.nd rfl (.inl rfl) (pe_op op_add (pe_meth (dvs := []) (pv 0) T.k_Wood T.M_Wood_end (ok_Wood_end T) (hr.mono (by decide)) T.B_Wood_end .nil psP (pa_cons (pv 1) pa_nil)) pe_int))
    (pss_cons (ps_if (PW.pt (pw_and (pt_cmpR op_lt (pv 2) (pe_meth0 (dvs := []) (pe_fldK (K := K) rfl (pv 0) (by rfl)) T.k_Row T.M_Row_size (ok_Row_size T) (hr.mono (by decide)) T.B_Row_size .nil psP) (nomark _)) (pw_and1 (pt_cmpR op_eq (pe_meth (dvs := []) (pe_fldK (K := K) rfl (pv 0) (by rfl)) T.k_Row T.M_Row_bit (ok_Row_bit T) (hr.mono (by decide)) T.B_Row_bit .nil psP (pa_cons (pv 2) pa_nil)) pe_int (nomark _)))))
    (pss_one (ps_ret (pv 2))) pss_nil)
    (pss_one (ps_ret pe_non)))), ?_⟩
  refine ⟨_, rfl, u, _, _, rfl, ew, rfl, _, rfl, u, l, p, rfl, hw, fun j ej hj H1 x1 => ?_, fun h H1 x1 => q2 h H1 x1⟩
  subst ej
  have hw1 := hw.xt x1
  have ⟨_, _, r, dx, n, ew, er⟩ := hw1
  have hE := (ends_en W hj).le
  have q1 : ∀ H', Xt (tK K) H H' → Q (on (nx l j)) H' := q1 j rfl hj
  have no : ¬ l[en l j + 1]? = some true → nx l j = none := fun h => if_neg h
  refine ⟨_, _, rfl, rfl, _, rfl, _, rfl, u, _, dx, _, _, rfl, ew, T.k_Wood, T.n_Wood_row, rfl, r, _, _, rfl, er.2.choose_spec, rfl, r, l, n, rfl, er, _, _, rfl, rfl, _, rfl, ite2 (fun h0 => ?_) (fun h0 => ?_)⟩
  · have h0 := of_decide_eq_true h0
    refine ⟨_, rfl, u, _, dx, _, _, rfl, ew, T.k_Wood, T.n_Wood_row, rfl, r, _, _, rfl, er.2.choose_spec, rfl, _, rfl, r, l, n, _, rfl, er, fun i b ei hb H2 x2 r2 => ⟨rfl, _, rfl, ite2 (fun h1 => ?_) (fun h1 => ?_)⟩, fun h => absurd h (by omega)⟩
    · obtain rfl : en l j + 1 = i := by omega
      have h1 := V.int.inj (of_decide_eq_true h1)
      cases b
      · cases h1
      have h2 : nx l j = some (en l j + 1) := if_pos hb
      rw [h2] at q1
      exact ⟨_, rfl, q1 H2 (x1.trans x2)⟩
    · obtain rfl : en l j + 1 = i := by omega
      cases b
      · rw [no (by rw [hb]; decide)] at q1
        exact q1 H2 (x1.trans x2)
      · exact absurd rfl h1
  · simp only [decide_eq_true_eq] at h0
    rw [no fun z => by have := len_of z; omega] at q1
    exact iteF (q1 H1 x1)
theorem ok_Wood_children (T : Tx K mg) : OkN P w K mg base ("Wood", some "children") 10 ["self", "node"] (spNodes K below) := by
  refine T.F_Wood_children.ok sc_Wood_children (fun vs H Q E h => nodes_len h) (fun cdv A outer s H vs Q E hr h => ?_)
  obtain ⟨u, l, p, rfl, hw, q1, q2⟩ := h
  have ⟨W, hl, r, dx, n, ew, er⟩ := hw
  refine ⟨_, (pss_cons (ps_expr (pe_meth (dvs := []) (pv 0) T.k_Wood T.M_Wood_need_node (ok_Wood_need_node T) (hr.mono (by decide)) T.B_Wood_need_node .nil psP (pa_cons (pv 1) pa_nil)))
    (pss_cons (ps_set (i := 2) sc_Wood_children.nd rfl (.inl rfl) (pe_lst pa_nil))
    (pss_cons (ps_set (i := 3) sc_Wood_children.nd rfl (.inl rfl) (pe_op op_add (pv 1) pe_int))
    (pss_cons (ps_if (pt_cmpR op_eq (pe_meth (dvs := []) (pe_fldK (K := K) rfl (pv 0) (by rfl)) T.k_Row T.M_Row_bit (ok_Row_bit T) (hr.mono (by decide)) T.B_Row_bit .nil psP (pa_cons (pv 3) pa_nil)) pe_int (nomark _))
    (pss_one (ps_set (i := 3) sc_Wood_children.nd rfl (.inl rfl) pe_non)) pss_nil)
    (pss_cons (ps_while (passes_of rfl) (pt_cmpR op_notN (pv 3) pe_non (nomark _))
    (pss_cons (ps_expr (pe_bmK (K := K) rfl F.plainAttrs_list F.slot_list_append F.type_list_append mt_append (pv 2) (pa_cons (pv 3) pa_nil) (by rfl) (by rfl) (by rfl) (by rfl) (by rfl)))
    (pss_one (ps_set (i := 3) sc_Wood_children.nd rfl (.inl rfl) (pe_meth (dvs := []) (pv 0) T.k_Wood T.M_Wood_next_child (ok_Wood_next_child T) (hr.mono (by decide)) T.B_Wood_next_child .nil psP (pa_cons (pv 3) pa_nil))))))
    (pss_one (ps_ret (pv 2)))))))), ?_⟩
  refine ⟨_, rfl, u, _, _, rfl, ew, rfl, _, rfl, u, l, p, rfl, hw, fun j ej hj H1 x1 => ?_, fun h H1 x1 => q2 h H1 x1⟩
  subst ej
  refine ⟨by decide, fun a na => ?_⟩
  have nwa : Nw H a := x1.nw (.of na)
  generalize hH : upd H1 a _ = H2
  have x2 := x1.trans (newE hH na)
  have ea := atE hH
  clear hH na
  have hw2 := hw.xt x2
  have ⟨_, _, r, dx, n, ew, er⟩ := hw2
  have hn := next_bit W hj
  obtain ⟨f1, f2⟩ := first_child W hj
  have f0 : fr (isCh l j) (j + 1) = [] := by
    rw [← List.nil_append (fr (isCh l j) (j + 1))]
    rw [fr_skip (a := 0) (Nat.zero_le _) fun i _ hi => ?_]
    · rfl
    · rw [← Bool.not_eq_true]
      exact fun z => by have := child_lt z; omega
  refine ⟨_, rfl, _, _, rfl, rfl, ?_⟩
  show gName 3 (V.int ((j : Int) + 1)) _ _ _
  rw [show ((j : Int) + 1) = ((j + 1 : Nat) : Int) by omega]
  -- the loop
  have fl : fr (isCh l j) l.length = below l j := rfl
  obtain ⟨Wh, eW⟩ : ∃ Wh : Nat → L2.St → Hp → Prop, Wh = fun m σ H' => ∃ o : Option Nat, Xt (tK K) H H' ∧ (∀ c, o = some c → isCh l j c = true) ∧ H' a = some (.lst ((fr (isCh l j) (o.getD l.length)).map fun i : Nat => .int i)) ∧ m = (o.elim 0 fun c => l.length - c) ∧ σ = [some (.ref u), some (.int j), some (.ref a), some (on o)] := ⟨_, rfl⟩
  refine (fun body => ⟨_, rfl, u, _, dx, _, _, rfl, ew, T.k_Wood, T.n_Wood_row, rfl, r, _, _, rfl, er.2.choose_spec, rfl, _, rfl, r, l, n, _, rfl, er, fun i b ei hb H3 x3 r3 => ⟨rfl, _, rfl, ite2 (fun h1 => ⟨Wh, ⟨0, ?_⟩, body⟩) (fun h1 => ⟨Wh, ⟨l.length - (j + 1), ?_⟩, body⟩)⟩, fun h => absurd h (by omega)⟩) ?_
  · intro m σ H' hW
    rw [eW] at hW
    obtain ⟨o, xa, hch, eo, rfl, rfl⟩ := hW
    cases o with
    | none => exact ⟨_, rfl, rfl, _, rfl, iteF ⟨_, rfl, q1 j rfl hj H' a xa nwa eo⟩⟩
    | some c =>
      have hc := hch c rfl
      have hcl := len_of (isCh_iff.mp hc).1
      have hE := ends_en W (isCh_iff.mp hc).1
      refine ⟨_, rfl, rfl, _, rfl, iteT ⟨fun σ' H'' => ∃ m', m' < l.length - c ∧ Wh m' σ' H'', fun _ _ h => h, ?_⟩⟩
      refine ⟨_, rfl, .inl ⟨rfl, _, SqL.of eo⟩, _, rfl, a, _, _, rfl, rfl, eo, ?_, ?_⟩
      · rw [List.length_map]
        have : (fr (isCh l j) c).length ≤ c := fr_le
        exact Nat.lt_of_le_of_lt (show _ ≤ 2000 from by show (fr (isCh l j) c).length ≤ 2000; omega) (by decide)
      generalize hH : upd H' a _ = Hb
      have xb : Xt (tK K) H Hb := by rw [← hH]; exact xa.mut nwa eo
      have eb := atE hH
      clear hH
      have eb : Hb a = some (.lst ((fr (isCh l j) (c + 1)).map fun i : Nat => .int i)) := by
        rw [eb, fr_succ, if_pos hc, List.map_append]
        rfl
      have hwb := hw.xt xb
      have ⟨_, _, r, dx, n, ew, er⟩ := hwb
      refine ⟨_, rfl, u, _, _, rfl, ew, rfl, _, rfl, u, l, c, rfl, hwb, fun j' ej _ Hc xc => ?_, fun h => absurd (isCh_iff.mp hc).1 (h c rfl)⟩
      obtain rfl : c = j' := by omega
      rw [eW]
      by_cases hb : l[en l c + 1]? = some true
      · have e2 : nx l c = some (en l c + 1) := if_pos hb
        refine ⟨l.length - (en l c + 1), by have := len_of hb; have := hE.lt; omega, some (en l c + 1), xb.trans xc, fun d z => ?_, ?_, rfl, by show [some (V.ref u), some (V.int j), some (V.ref a), some (on (nx l c))] = _; rw [e2]⟩
        · rw [← Option.some.inj z]
          exact next_child W hc hb
        · rw [xc.lst eb, show (Option.getD (some (en l c + 1)) l.length) = en l c + 1 from rfl, fr_skip (a := c + 1) (b := en l c + 1) (by have := hE.lt; omega) fun i h1 h2 => no_child2 W hc (by omega) (by omega)]
      · have e2 : nx l c = none := if_neg hb
        refine ⟨0, by omega, none, xb.trans xc, (fun d z => nomatch z), ?_, rfl, by show [some (V.ref u), some (V.int j), some (V.ref a), some (on (nx l c))] = _; rw [e2]⟩
        rw [xc.lst eb, show (Option.getD none l.length) = l.length from rfl, fr_skip (a := c + 1) (b := l.length) (by omega) fun i h1 h2 => ?_]
        rcases Nat.lt_or_ge (en l c) i with h3 | h3
        · exact last_child W hc hb h3
        · exact no_child2 W hc (by omega) h3
  · obtain rfl : j + 1 = i := by omega
    have h1 := V.int.inj (of_decide_eq_true h1)
    cases b
    · rw [eW]
      refine ⟨none, x2.trans x3, (fun c z => nomatch z), ?_, rfl, rfl⟩
      rw [x3.lst ea, show (Option.getD none l.length) = l.length from rfl, fr_skip (a := 0) (Nat.zero_le _) fun i _ _ => f2 hb i]
      rfl
    · cases h1
  · obtain rfl : j + 1 = i := by omega
    cases b
    · exact absurd rfl h1
    · rw [eW]
      refine ⟨some (j + 1), x2.trans x3, fun c z => ?_, ?_, rfl, rfl⟩
      · rw [← Option.some.inj z]
        exact f1 hb
      · rw [x3.lst ea, show (Option.getD (some (j + 1)) l.length) = j + 1 from rfl, f0]
        rfl
def spChild (K : PySem.W.Frag) : Sp := fun vs H Q E => ∃ (u : Addr) (l : List Bool) (p s : Int), vs = [.ref u, .int p, .int s] ∧ WoodAt K H u l ∧ (∀ j k c : Nat, p = j → s = k → l[j]? = some true → (below l j)[k]? = some c → ∀ H', Xt (tK K) H H' → Q (.int c) H') ∧
  (((∀ j : Nat, p = j → ¬ l[j]? = some true) ∨ s < 0 ∨ ∃ j : Nat, p = j ∧ ((below l j).length : Int) ≤ s) → ∀ H', Xt (tK K) H H' → E (.ref (He.ga K "BadPlace")) none H')
theorem ok_Wood_child (T : Tx K mg) : OkN P w K mg base ("Wood", some "child") 11 ["self", "node", "number"] (spChild K) := by
  refine T.F_Wood_child.ok sc_Wood_child (fun vs H Q E h => ?_) (fun cdv A outer s H vs Q E hr h => ?_)
  · obtain ⟨u, l, p, s, rfl, _⟩ := h
    rfl
  · obtain ⟨u, l, p, st, rfl, hw, q1, q2⟩ := h
    have ⟨W, hl, r, dx, n, ew, er⟩ := hw
    refine ⟨_, (pss_cons (ps_set (i := 3) sc_Wood_child.nd rfl (.inl rfl) (pe_meth (dvs := []) (pv 0) T.k_Wood T.M_Wood_children (ok_Wood_children T) (hr.mono (by decide)) T.B_Wood_children .nil psP (pa_cons (pv 1) pa_nil)))
    (pss_cons (ps_expr (pe_meth (dvs := []) (pv 0) T.k_Wood T.M_Wood_need (ok_Wood_need T) (hr.mono (by decide)) T.B_Wood_need .nil psP (pa_cons (pe_chain op_le op_lt pe_int (pv 2) (pe_callB (call_len_seqK (K := K) rfl) (by rfl) T.z_len b_len (pa_cons (pv 3) pa_nil))) pa_nil)))
    (pss_one (ps_ret (pe_ix (ix_listK (K := K) rfl) (pv 3) (pv 2) (fun _ _ => rfl)))))), ?_⟩
    refine ⟨_, rfl, u, _, _, rfl, ew, rfl, _, rfl, u, l, p, rfl, hw, fun j ej hj H1 a x1 na ea => ?_, fun h H1 x1 => q2 (.inl h) H1 x1⟩
    subst ej
    have hw1 := hw.xt x1
    have ⟨_, _, r, dx, n, ew, er⟩ := hw1
    refine ⟨_, rfl, u, _, _, rfl, ew, rfl, _, rfl, _, _, rfl, rfl, _, rfl, ite2 (fun h0 => ?_) (fun h0 => ?_)⟩
    · have h0 := of_decide_eq_true h0
      obtain ⟨k, rfl⟩ : ∃ k : Nat, st = k := ⟨st.toNat, by omega⟩
      refine ⟨_, rfl, _, _, rfl, .inl (SqL.of ea), _, _, rfl, rfl, u, _, rfl, fun h1 => ?_, fun h1 => q2 (.inr (.inr ⟨j, rfl, ?_⟩)) H1 x1⟩
      · have h1 := of_decide_eq_true h1
        rw [List.length_map] at h1
        have hk : k < (below l j).length := by omega
        have hk2 : (below l j)[k]? = some (below l j)[k] := List.getElem?_eq_getElem hk
        refine ⟨_, rfl, _, rfl, a, _, (k : Int), .int ((below l j)[k] : Nat), rfl, rfl, SqL.of ea, atI_nat ?_, q1 j k _ rfl rfl hj hk2 H1 x1⟩
        rw [List.getElem?_map, hk2]
        rfl
      · have h1 := of_decide_eq_false h1
        rw [List.length_map] at h1
        omega
    · simp only [decide_eq_true_eq] at h0
      exact ⟨u, false, rfl, fun z => (by cases z), fun _ => q2 (.inr (.inl (by omega))) H1 x1⟩
theorem ok_Wood_which (T : Tx K mg) : OkN P w K mg base ("Wood", some "which") 11 ["self", "node"] (spNode K fun l j => on (wh l j)) := by
  refine T.F_Wood_which.ok sc_Wood_which (fun vs H Q E h => node_len h) (fun cdv A outer s H vs Q E hr h => ?_)
  obtain ⟨u, l, p, rfl, hw, q1, q2⟩ := h
  have ⟨W, hl, r, dx, n, ew, er⟩ := hw
  refine ⟨_, (pss_cons (ps_set (i := 2) sc_Wood_which.nd rfl (.inl rfl) (pe_meth (dvs := []) (pv 0) T.k_Wood T.M_Wood_parent (ok_Wood_parent T) (hr.mono (by decide)) T.B_Wood_parent .nil psP (pa_cons (pv 1) pa_nil)))
    (pss_cons (ps_if (pt_cmpR op_isN (pv 2) pe_non (nomark _))
    (pss_one (ps_ret pe_non)) pss_nil)
    (pss_one (ps_ret (pe_bmK (K := K) rfl F.plainAttrs_list F.slot_list_index F.type_list_index (mt_indexK (K := K) rfl) (pe_meth (dvs := []) (pv 0) T.k_Wood T.M_Wood_children (ok_Wood_children T) (hr.mono (by decide)) T.B_Wood_children .nil psP (pa_cons (pv 2) pa_nil)) (pa_cons (pv 1) pa_nil) (by rfl) (by rfl) (by rfl) (by rfl) (by rfl)))))), ?_⟩
  refine ⟨_, rfl, u, _, _, rfl, ew, rfl, _, rfl, u, l, p, rfl, hw, fun j ej hj H1 x1 => ?_, fun h H1 x1 => q2 h H1 x1⟩
  subst ej
  have q1 : ∀ H', Xt (tK K) H H' → Q (on (wh l j)) H' := q1 j rfl hj
  unfold wh at q1
  have hw1 := hw.xt x1
  have ⟨_, _, r, dx, n, ew, er⟩ := hw1
  show gName 2 (on (up l j)) _ _ _
  cases hu : up l j with
  | none =>
    rw [hu] at q1
    exact ⟨_, rfl, rfl, _, rfl, iteT (q1 H1 x1)⟩
  | some b =>
    rw [hu] at q1
    have hc : isCh l b j = true := isCh_iff.mpr ⟨hj, hu⟩
    refine ⟨_, rfl, rfl, _, rfl, iteF ⟨_, rfl, u, _, _, rfl, ew, rfl, _, rfl, u, l, b, rfl, hw1, fun j' ej hb H2 a x2 na ea => ?_, fun h => absurd (up_one hu) (h b rfl)⟩⟩
    obtain rfl : b = j' := by omega
    refine ⟨.inl ⟨rfl, _, SqL.of ea⟩, _, rfl, a, _, .int j, (fr (isCh l b) j).length, .int j, rfl, rfl, SqL.of ea, rfl, flat_nats _, ?_, ?_, fun m z hm hz => ?_, q1 H2 (x1.trans x2)⟩
    · rw [List.getElem?_map, below_at hc]
      rfl
    · show ((j : Int) == (j : Int)) = true
      exact beq_self_eq_true _
    · rw [List.getElem?_map] at hz
      obtain ⟨c, hc2, rfl⟩ := Option.map_eq_some_iff.mp hz
      show ((c : Int) == (j : Int)) = false
      rw [beq_eq_false_iff_ne]
      intro z
      obtain rfl : c = j := by omega
      have := nodup_at below_nd hc2 (below_at hc)
      omega
def spWRoom (K : PySem.W.Frag) : Sp := fun vs H Q E => ∃ (u : Addr) (l : List Bool), vs = [.ref u] ∧ WoodAt K H u l ∧ Q (.int ((l.length + 2 * (l.length / 32 * nd l.length) : Nat) : Int)) H
theorem ok_Wood_room (T : Tx K mg) : OkN P w K mg base ("Wood", some "room") 2 ["self"] (spWRoom K) := by
  refine T.F_Wood_room.ok sc_Wood_room (fun vs H Q E h => ?_) (fun cdv A outer s H vs Q E hr h => ?_)
  · obtain ⟨u, l, rfl, _⟩ := h
    rfl
  · obtain ⟨u, l, rfl, ⟨W, hl, r, dx, n, ew, er⟩, q⟩ := h
    refine ⟨_, (pss_one (ps_ret (pe_op op_add (pe_meth0 (dvs := []) (pe_fldK (K := K) rfl (pv 0) (by rfl)) T.k_Row T.M_Row_room (ok_Row_room T) (hr.mono (by decide)) T.B_Row_room .nil psP) (pe_callB call_len_str (by rfl) T.z_len b_len (pa_cons (pe_fldK (K := K) rfl (pv 0) (by rfl)) pa_nil))))), ?_⟩
    have hw : nd l.length ≤ 13 := (nd_le _ _).mpr (by omega)
    have hlen : (sb (pk (lws l) (nd l.length))).length = l.length / 32 * nd l.length := by rw [sb_len, pk_len, lws_len]
    have hsz : l.length / 32 * nd l.length ≤ 100000 := Nat.le_trans (Nat.mul_le_mul (show l.length / 32 ≤ 128 by omega) hw) (by decide)
    refine ⟨_, rfl, u, _, dx, _, _, rfl, ew, T.k_Wood, T.n_Wood_row, rfl, r, _, _, rfl, er.2.choose_spec, rfl, r, l, n, rfl, er, _, rfl, u, _, dx, _, _, rfl, ew, T.k_Wood, T.n_Wood_lows, rfl, _, rfl, by rw [hlen]; exact Nat.le_trans hsz (by decide), _, _, rfl, rfl, ?_⟩
    show Q (.int (((l.length + l.length / 32 * nd l.length : Nat) : Int) + (((sb (pk (lws l) (nd l.length))).length : Nat) : Int))) H
    rw [hlen, show ((l.length + l.length / 32 * nd l.length : Nat) : Int) + ((l.length / 32 * nd l.length : Nat) : Int) = ((l.length + 2 * (l.length / 32 * nd l.length) : Nat) : Int) by omega]
    exact q
def spWood (K : PySem.W.Frag) : Sp := fun vs H Q E => ∃ (H0 : Hp) (u dx : Addr) (z : Str), vs = [.ref u, .str z] ∧ Xt (tK K) H0 H ∧ Nw H0 u ∧ H u = some (.ins (He.ga K "Wood") dx []) ∧ z.length ≤ 100000 ∧
  (∀ l, z = sb l → okT l → l.length ≤ 2000 → ∀ H', Xt (tK K) H0 H' → WoodAt K H' u l → Q .non H') ∧ ((∀ l, z = sb l → okT l → 2000 < l.length) → ∀ H', Xt (tK K) H0 H' → E (.ref (He.ga K "BadBits")) none H')
theorem ok_Wood_init (T : Tx K mg) : OkN P w K mg base ("Wood", some "__init__") 5 ["self", "bits"] (spWood K) := by
  refine T.F_Wood_init.ok sc_Wood_init (fun vs H Q E h => ?_) (fun cdv A outer s H vs Q E hr h => ?_)
  · obtain ⟨H0, u, dx, z, rfl, _⟩ := h
    rfl
  · obtain ⟨H0, u, dx, z, rfl, x0, nu, e, hz, q1, q2⟩ := h
    refine ⟨_, (pss_cons (ps_expr (pe_callS (ok_need_tree T) (hr.mono (by decide)) (by rfl) T.g_need_tree T.F_need_tree.kp T.B_need_tree psE (pa_cons (pv 1) pa_nil)))
    (pss_cons (ps_fld (pv 0) (pe_make (dvs := []) T.mk_Row (ok_Row_init T) (hr.mono (by decide)) (by rfl) T.g_Row T.B_Row_init .nil psP (pa_cons (pv 1) pa_nil)) rfl)
    (pss_cons (ps_fld (pv 0) (pe_callS (ok_needs T) (hr.mono (by decide)) (by rfl) T.g_needs T.F_needs.kp T.B_needs psE (pa_cons (pe_callB call_len_str (by rfl) T.z_len b_len (pa_cons (pv 1) pa_nil)) pa_nil)) rfl)
    (pss_cons (ps_set (i := 2) sc_Wood_init.nd rfl (.inl rfl) (pe_lst pa_nil))
    (pss_cons (ps_set (i := 3) sc_Wood_init.nd rfl (.inl rfl) pe_int)
    (pss_cons (ps_for (passes_of rfl) rfl (pi_range1 (by rfl) T.z_range (pa_cons (pe_op op_fdivW (pe_callB call_len_str (by rfl) T.z_len b_len (pa_cons (pv 1) pa_nil)) (pe_glob (v := .int _) (by rfl) T.c_BLOCK.choose_spec ⟨_, rfl⟩)) pa_nil)) (pg_name (i := 4) sc_Wood_init.nd rfl (.inl rfl))
    (pss_cons (ps_set (i := 5) sc_Wood_init.nd rfl (.inl rfl) (pe_callB call_len_str (by rfl) T.z_len b_len (pa_cons (pv 1) pa_nil)))
    (pss_cons (ps_for (passes_of rfl) rfl (pi_str (pe_slice sl_str (pv 1) (po_some (pe_op op_mul (pv 4) (pe_glob (v := .int _) (by rfl) T.c_BLOCK.choose_spec ⟨_, rfl⟩))) (po_some (pe_op op_mul (pe_op op_add (pv 4) pe_int) (pe_glob (v := .int _) (by rfl) T.c_BLOCK.choose_spec ⟨_, rfl⟩))))) (pg_name (i := 6) sc_Wood_init.nd rfl (.inl rfl))
    (pss_cons (ps_set (i := 3) sc_Wood_init.nd rfl (.inl rfl) (pe_op op_sub (pe_op op_add (pv 3) (pe_op op_mul pe_int (pe_callTy call_int_str (by rfl) T.z_int b_int (pa_cons (pv 6) pa_nil)))) pe_int))
    (pss_one (ps_set (i := 5) sc_Wood_init.nd rfl (.inl rfl) (pe_callB (call_min2 rfl) (by rfl) T.z_min b_min (pa_cons (pv 5) (pa_cons (pv 3) pa_nil)))))))
    (pss_one (ps_expr (pe_bmK (K := K) rfl F.plainAttrs_list F.slot_list_append F.type_list_append mt_append (pv 2) (pa_cons (pv 5) pa_nil) (by rfl) (by rfl) (by rfl) (by rfl) (by rfl)))))))
    (pss_one (ps_fld (pv 0) (pe_callS (ok_pack T) (hr.mono (by decide)) (by rfl) T.g_pack T.F_pack.kp T.B_pack psE (pa_cons (pv 2) (pa_cons (pe_fldK (K := K) rfl (pv 0) (by rfl)) pa_nil))) rfl)))))))), ?_⟩
    refine ⟨_, rfl, z, rfl, hz, fun l el W hl H1 x1 => ?_, fun hb H1 x1 => q2 hb H1 (x0.trans x1.up)⟩
    subst el
    have q1 := q1 l rfl W hl
    have hzl := wood_sz hl
    have e1 := x1.same e fun ps z => by cases z
    have x1 := x0.trans x1.up
    refine ⟨_, rfl, fun r dr hrn hdn hne => ?_⟩
    have xm : Xt (tK K) H1 (upd (upd H1 dr (.own r)) r (.ins (He.ga K "Row") dr [])) := (Xt.new hdn).trans (.new (by rw [upd_ne (Ne.symm hne)]; exact hrn))
    refine ⟨H1, r, dr, sb l, rfl, xm, .of hrn, upd_same .., hz, fun l' el _ H2 x2 er => ⟨rfl, ?_⟩, fun h => absurd ⟨l, rfl⟩ h, fun l' el h => absurd h (by rw [← sb_inj el]; omega)⟩
    have el := sb_inj el
    subst el
    have hur : u ≠ r := fun z => by rw [← z, e1] at hrn; cases hrn
    have nr : Nw H1 r := .of hrn
    have e2 := x2.ins e1 (fun fs' n h => by have := congrArg List.length h; rw [List.length_append] at this; simp [sn] at this)
    have x2 := x1.trans x2
    refine ⟨_, rfl, u, _, dx, _, rfl, e2, T.k_Wood, T.n_Wood_row, by exact (by decide : 0 < 1000), ?_⟩
    generalize hH : upd H2 u _ = H3
    have x3 : Xt (tK K) H0 H3 := by rw [← hH]; exact x2.put nu (.ins e2)
    have e3 := atE hH
    have er3 : RowAt K H3 r l 0 := ⟨er.1, er.2.choose, by rw [← hH, upd_ne (Ne.symm hur)]; exact er.2.choose_spec⟩
    clear hH er
    refine ⟨_, rfl, _, rfl, hzl, _, rfl, fun _ => ?_, fun h => absurd h (by omega)⟩
    rw [show ((((sb l).length : Nat) : Int)).toNat = l.length by rw [sb_len]; omega]
    refine ⟨_, rfl, u, _, dx, _, rfl, e3, T.k_Wood, T.n_Wood_wide, by exact (by decide : 1 < 1000), ?_⟩
    generalize hH : upd H3 u _ = H4
    have x4 : Xt (tK K) H0 H4 := by rw [← hH]; exact x3.put nu (.ins e3)
    have e4 := atE hH
    have er4 : RowAt K H4 r l 0 := ⟨er3.1, er3.2.choose, by rw [← hH, upd_ne (Ne.symm hur)]; exact er3.2.choose_spec⟩
    clear hH er3
    refine ⟨by decide, fun p np => ?_⟩
    have np0 : Nw H0 p := x4.nw (.of np)
    generalize hH : upd H4 p _ = H5
    have x5 : Xt (tK K) H4 H5 := newE hH np
    have ep : H5 p = some (.lst ((List.range 0).map fun b => .int (lowF l b 32))) := atE hH
    have hup : u ≠ p := fun z => by rw [← z, e4] at np; cases np
    have hrp : r ≠ p := fun z => by rw [← z, er4.2.choose_spec] at np; cases np
    have e5 : H5 u = some (.ins (He.ga K "Wood") dx [("row", .ref r), ("wide", .int (nd l.length))]) := by rw [← hH, upd_ne hup]; exact e4
    have er5 : RowAt K H5 r l 0 := ⟨er4.1, er4.2.choose, by rw [← hH, upd_ne hrp]; exact er4.2.choose_spec⟩
    have x5 := x4.trans x5
    clear hH er4 np
    have e32 : (((sb l).length : Nat) : Int) / 32 = ((l.length / 32 : Nat) : Int) := by rw [sb_len]; omega
    refine ⟨_, rfl, _, rfl, hzl, _, _, rfl, rfl, wide_div (b := 6) (by decide) (by decide) (by decide) (by decide), _, rfl, by omega, by omega, ?_⟩
    rw [e32]
    refine for_it w_range (fun i σ H' => Xt (tK K) H0 H' ∧ H' u = some (.ins (He.ga K "Wood") dx [("row", .ref r), ("wide", .int (nd l.length))]) ∧ RowAt K H' r l 0 ∧ H' p = some (.lst ((List.range i).map fun b => .int (lowF l b 32))) ∧ ∃ t4 t5 t6, σ = [some (.ref u), some (.str (sb l)), some (.ref p), some (.int (dq l (i * 32))), t4, t5, t6]) ⟨x5, e5, er5, ep, none, none, none, rfl⟩ (fun _ _ _ _ _ => trivial) ?_ ?_
    · intro i x σ Ha Hb hi hp hy
      obtain ⟨xa, ea, era, epa, t4, t5, t6, rfl⟩ := hp
      obtain ⟨rfl, rfl⟩ := hy
      have hi : i < l.length / 32 := by omega
      have ei : (0 : Int) + (i : Int) = (i : Int) := by omega
      rw [ei]
      have ecut : V.str (cutS (sb l) (some ((i : Int) * 32)) (some (((i : Int) + 1) * 32))) = .str (sb ((l.take ((i + 1) * 32)).drop (i * 32))) := by
        rw [show (i : Int) * 32 = ((i * 32 : Nat) : Int) by omega, show ((i : Int) + 1) * 32 = (((i + 1) * 32 : Nat) : Int) by omega, cut_sb]
      have hpl : ((l.take ((i + 1) * 32)).drop (i * 32)).length = 32 := by rw [List.length_drop, List.length_take]; omega
      have hpg : ∀ k, k < 32 → ((l.take ((i + 1) * 32)).drop (i * 32))[k]? = l[i * 32 + k]? := fun k hk => by
        rw [List.getElem?_drop, List.getElem?_take_of_lt (by omega)]
      refine ⟨_, rfl, _, rfl, hzl, _, rfl, _, rfl, _, _, rfl, rfl, .inr ⟨by decide, by decide⟩, _, rfl, _, rfl, _, _, rfl, rfl, _, _, rfl, rfl, .inr ⟨by decide, by decide⟩, _, rfl, sb l, rfl, hzl, sb ((l.take ((i + 1) * 32)).drop (i * 32)), ecut, ?_⟩
      generalize (l.take ((i + 1) * 32)).drop (i * 32) = pt at hpl hpg ⊢
      refine for_it w_str (fun k σ H' => H' = Hb ∧ ∃ t6, σ = [some (.ref u), some (.str (sb l)), some (.ref p), some (.int (dq l (i * 32 + k))), some (.int i), some (.int (lowF l i k)), t6]) ⟨rfl, t6, ?_⟩ (fun _ _ _ _ _ => trivial) ?_ ?_
      · show [some (V.ref u), some (.str (sb l)), some (.ref p), some (.int (dq l (i * 32))), some (.int i), some (.int ((sb l).length : Nat)), t6] = _
        rw [sb_len]
        rfl
      · intro k x σ Hc Hd hk hp hy
        obtain ⟨rfl, t6, rfl⟩ := hp
        obtain ⟨rfl, c, hc, rfl⟩ := hy
        rw [List.length_map, hpl] at hk
        rw [List.getElem?_map, hpg k hk] at hc
        obtain ⟨b, hb, rfl⟩ := Option.map_eq_some_iff.mp hc
        refine ⟨_, rfl, _, rfl, _, _, rfl, int_bit b, by rw [S_len]; exact (by decide : 1 ≤ 640), _, _, rfl, rfl, .inl ⟨by decide, by decide⟩, _, _, rfl, rfl, _, _, rfl, rfl, ?_⟩
        show gName 3 (V.int (dq l (i * 32 + k) + 2 * (b.toNat : Int) - 1)) _ _ _
        rw [← dq_succ hb]
        exact ⟨_, rfl, _, rfl, _, _, rfl, rfl, _, rfl⟩
      · intro σ Hc hp
        obtain ⟨rfl, t6, rfl⟩ := hp
        rw [List.length_map, hpl]
        refine ⟨_, rfl, .inl ⟨rfl, _, SqL.of epa⟩, _, rfl, p, _, _, rfl, rfl, epa, ?_, ?_⟩
        · rw [List.length_map, List.length_range]
          exact Nat.lt_of_le_of_lt (show i ≤ 2000 by omega) (by decide)
        have hup : u ≠ p := fun z => by rw [z, epa] at ea; cases ea
        have hrp : r ≠ p := fun z => by rw [← z, era.2.choose_spec] at epa; cases epa
        refine ⟨xa.mut np0 epa, by rw [upd_ne hup]; exact ea, ⟨era.1, era.2.choose, by rw [upd_ne hrp]; exact era.2.choose_spec⟩, ?_, some (.int i), some (.int (lowF l i 32)), t6, ?_⟩
        · rw [upd_same, List.range_succ, List.map_append]
          rfl
        · rw [show (i + 1) * 32 = i * 32 + 32 by omega]
    · intro σ Ha hp
      obtain ⟨xa, ea, era, epa, t4, t5, t6, rfl⟩ := hp
      have ek : ((((l.length / 32 : Nat) : Int))).toNat = l.length / 32 := by omega
      rw [ek] at epa
      have hgood : ∀ n ∈ ((List.range (l.length / 32)).map fun b => lowF l b 32), 0 ≤ n ∧ nd n.toNat ≤ nd l.length := fun n hn => by
        obtain ⟨b, hb, rfl⟩ := List.mem_map.mp hn
        have hb := List.mem_range.mp hb
        exact ⟨low_ge W (by omega), lw_nd W hb⟩
      have hnd13 : nd l.length ≤ 13 := (nd_le _ _).mpr (by omega)
      refine ⟨_, rfl, _, rfl, u, _, dx, _, _, rfl, ea, T.k_Wood, T.n_Wood_wide, rfl, p, ((List.range (l.length / 32)).map fun b => lowF l b 32), nd l.length, rfl, SqL.of (by rw [epa, List.map_map]; rfl), ?_, by omega, fun _ Hb xb => ?_, fun ⟨n, hn, hb⟩ => ?_⟩
      · rw [List.length_map, List.length_range]
        omega
      · have ect : ((List.range (l.length / 32)).map fun b => lowF l b 32).map Int.toNat = lws l := by
          rw [List.map_map]
          rfl
        rw [ect]
        have eb := xb.same ea fun ps z => by cases z
        have erb := era.xs xb
        have xb := xa.trans xb.up
        refine ⟨_, rfl, u, _, dx, _, rfl, eb, T.k_Wood, T.n_Wood_lows, by exact (by decide : 2 < 1000), ?_⟩
        have hur : u ≠ r := fun z => by rw [z, erb.2.choose_spec] at eb; injection eb with eb; injection eb with _ _ eb; cases eb
        exact q1 _ (xb.put nu (.ins eb)) ⟨W, hl, r, dx, 0, upd_same .., erb.1, erb.2.choose, by rw [upd_ne (Ne.symm hur)]; exact erb.2.choose_spec⟩
      · exfalso
        have := hgood n hn
        omega
end
end Tw

set_option maxHeartbeats 4000000
namespace Tw
open PySem PySem.Spec PyProof.Rows L2 LamX
section
variable {P : Program} {w : World} {K : PySem.W.Frag} {mg : Str → Option Value} {base : Heap}
/-! ### signs -/
theorem tfits {k : Nat} (h : k ≤ 100000) : k ≤ sizeLine := Nat.le_trans h (by decide)
def spIsSign (K : PySem.W.Frag) : Sp := fun vs H Q E => ∃ z : Str, vs = [.str z] ∧ z.length ≤ 100000 ∧ (∀ c, z = sg c → Q (.bl (okSg c)) H) ∧ (z.length ≠ 1 → Q (.bl false) H)
theorem ok_is_sign (T : Tx K mg) : OkN P w K mg base ("is_sign", none) 1 ["thing"] (spIsSign K) := by
  refine T.F_is_sign.ok sc_is_sign (fun vs H Q E h => ?_) (fun cdv A outer s H vs Q E hr h => ?_)
  · obtain ⟨z, rfl, _⟩ := h
    rfl
  · obtain ⟨z, rfl, hz, q1, q2⟩ := h
    refine ⟨_, (pss_one (ps_ret (pe_and (pe_cmpR op_eq (pe_callB call_len_str (by rfl) T.z_len b_len (pa_cons (pv 0) pa_nil)) pe_int (nomark _)) (pe_and (pe_chain op_le op_le (pe_callB call_ord (by rfl) T.z_ord b_ord (pa_cons (pe_glob (v := .str _) (by rfl) T.c_FIRST.choose_spec ⟨_, rfl⟩) pa_nil)) (pe_callB call_ord (by rfl) T.z_ord b_ord (pa_cons (pv 0) pa_nil)) (pe_callB call_ord (by rfl) T.z_ord b_ord (pa_cons (pe_glob (v := .str _) (by rfl) T.c_LAST.choose_spec ⟨_, rfl⟩) pa_nil))) (pe_one (pe_cmpR op_ne (pe_callB call_ord (by rfl) T.z_ord b_ord (pa_cons (pv 0) pa_nil)) (pe_glob (v := .int _) (by rfl) T.c_BARRED.choose_spec ⟨_, rfl⟩) (nomark _))))))), ?_⟩
    refine ⟨_, rfl, _, rfl, tfits hz, rfl, _, rfl, ite2 (fun h => ?_) (fun h => ?_)⟩
    · have h := of_decide_eq_true h
      injection h with h
      have h : z.length = 1 := by omega
      obtain ⟨c, rfl⟩ : ∃ c, z = sg c := by
        obtain ⟨l, rfl⟩ : ∃ l, z = S l := ⟨_, S_of z⟩
        rw [S_len] at h
        match l, h with
        | [c], _ => exact ⟨c, rfl⟩
      have q := q1 c rfl
      have f1 : (Str.ofString " ").cps.getD 0 0 = 32 := by decide +kernel
      have f2 : (Str.ofString "~").cps.getD 0 0 = 126 := by decide +kernel
      have f3 : (sg c).cps.getD 0 0 = c := rfl
      refine ⟨_, rfl, by decide +kernel, _, rfl, _, rfl, h, _, _, rfl, rfl, _, rfl, ite2 (fun h1 => ?_) (fun h1 => ?_)⟩
      · rw [f1, f3, decide_eq_true_eq] at h1
        refine ⟨_, rfl, by decide +kernel, _, _, rfl, rfl, _, rfl, ite2 (fun h2 => ?_) (fun h2 => ?_)⟩
        · rw [f2, f3, decide_eq_true_eq] at h2
          refine ⟨_, rfl, _, rfl, h, rfl, ?_⟩
          have e : okSg c = !decide (V.int (((sg c).cps.getD 0 0 : Nat) : Int) = V.int 37) := by
            unfold okSg
            rw [f3, decide_eq_true (show 32 ≤ c by omega), decide_eq_true (show c ≤ 126 by omega), Bool.true_and, Bool.true_and]
            by_cases z : c = 37
            · subst z
              rfl
            · rw [decide_eq_true z, decide_eq_false (fun y => by injection y with y; omega)]
              rfl
          rw [e] at q
          exact q
        · rw [f2, f3] at h2
          have h2 : ¬ c ≤ 126 := fun z => h2 (decide_eq_true (by omega))
          have e : okSg c = false := by
            unfold okSg
            rw [decide_eq_false h2, Bool.and_false, Bool.false_and]
          rw [e] at q
          show _
          have d : decide ((((sg c).cps.getD 0 0 : Nat) : Int) ≤ (((Str.ofString "~").cps.getD 0 0 : Nat) : Int)) = false := decide_eq_false (by rw [f2, f3]; omega)
          exact q
      · rw [f1, f3] at h1
        have h1 : ¬ 32 ≤ c := fun z => h1 (decide_eq_true (by omega))
        have e : okSg c = false := by
          unfold okSg
          rw [decide_eq_false h1, Bool.false_and, Bool.false_and]
        rw [e] at q
        exact ⟨_, rfl, iteF q⟩
    · exact q2 fun z => h (decide_eq_true (by rw [z]; rfl))
def spNeedText (K : PySem.W.Frag) : Sp := fun vs H Q E => ∃ l : List Nat, vs = [.str (S l)] ∧ l.length ≤ 10000 ∧ (goodT l → ∀ H', Xs (tK K) H H' → Q .non H') ∧ (¬ goodT l → ∀ H', Xs (tK K) H H' → E (.ref (He.ga K "BadText")) none H')
theorem ok_need_text (T : Tx K mg) : OkN P w K mg base ("need_text", none) 2 ["text"] (spNeedText K) := by
  refine T.F_need_text.ok sc_need_text (fun vs H Q E h => ?_) (fun cdv A outer s H vs Q E hr h => ?_)
  · obtain ⟨l, rfl, _⟩ := h
    rfl
  · obtain ⟨l, rfl, hl, q1, q2⟩ := h
    refine ⟨_, (pss_one (ps_if (PW.pt (pw_or (pt_cmpR op_gt (pe_callB call_len_str (by rfl) T.z_len b_len (pa_cons (pv 0) pa_nil)) (pe_glob (v := .int _) (by rfl) T.c_MOST_texts.choose_spec ⟨_, rfl⟩) (nomark _)) (pw_or1 (pt_not (pt_val (pe_callB (cr_allK (K := K) rfl rfl) (by rfl) T.z_all b_all (pa_cons (pe_lc (own := [("sign", 1)]) rfl sc_need_text.nd (pi_str (pv 0)) (blkOk_by (N := N_need_text) (sc := defScope s_need_text) (by decide +kernel)) (fun _ _ _ _ _ => (pg_name (i := 1) sc_need_text.nd rfl (.inl rfl))) (fun _ _ _ _ _ => pts_nil) (fun _ _ _ _ _ => (pe_callS (ok_is_sign T) (hr.mono (by decide)) (by rfl) T.g_is_sign T.F_is_sign.kp T.B_is_sign ps0 (pa_cons (pv 1) pa_nil)))) pa_nil)))))))
    (pss_one (ps_rz T.x_BadText rfl (by decide))) pss_nil)), ?_⟩
    refine ⟨_, rfl, _, rfl, by rw [S_len]; exact tfits (by omega), _, _, rfl, rfl, _, rfl, ite2 (fun h => ?_) (fun h => ?_)⟩
    · have h := of_decide_eq_true h
      rw [S_len] at h
      exact iteT (q2 (fun g => by have := g.1; omega) H .refl)
    · rw [S_len] at h
      have hl2 : l.length ≤ 512 := by
        by_cases z : l.length ≤ 512
        · exact z
        · exact absurd (decide_eq_true (by omega)) h
      refine ⟨_, rfl, _, rfl, fun D hD => lcPs (T := tK K) w_str hD (by omega) (fun _ _ => trivial) (fun i => .bl (okSg (l.getD i 0))) ?_ fun H2 x2 e2 => ?_⟩
      · intro i x H' hi hy x1 Q q
        obtain ⟨c, hc, rfl⟩ := hy
        have e : l.getD i 0 = c := by rw [List.getD_eq_getElem?_getD, hc]; rfl
        rw [e] at q
        refine ⟨_, rfl, sg c, rfl, by show (S [c]).length ≤ _; rw [S_len]; exact (by decide : 1 ≤ 100000), fun c2 h2 => ?_, fun h2 => absurd (S_len [c]) h2⟩
        rw [← sg_inj h2]
        exact q _ .refl
      · have eb : ((List.range l.length).map fun i => V.bl (okSg (l.getD i 0))) = (l.map okSg).map V.bl := by
          have := kept_gen 0 (fun _ => true) (fun c => V.bl (okSg c)) l
          rw [kept_all] at this
          rw [this, List.filter_eq_self.mpr (fun _ _ => rfl), List.map_map]
          rfl
        rw [eb] at e2
        refine ⟨D, l.map okSg, rfl, SqL.of e2, _, rfl, ite2 (fun h3 => ?_) (fun h3 => ?_)⟩
        · refine q2 (fun g => ?_) H2 x2
          have : ((l.map okSg).all id) = true := by
            rw [List.all_map, List.all_eq_true]
            exact g.2
          rw [this] at h3
          cases h3
        · refine q1 ⟨hl2, fun c hc => ?_⟩ H2 x2
          cases z : (l.map okSg).all id with
          | true =>
            rw [List.all_map, List.all_eq_true] at z
            exact z c hc
          | false =>
            rw [z] at h3
            exact absurd rfl h3
def spLetters (K : PySem.W.Frag) : Sp := fun vs H Q E => ∃ l : List Nat, vs = [.str (S l)] ∧ l.length ≤ 512 ∧ (∀ c ∈ l, c < 128) ∧ ∀ H', Xs (tK K) H H' → Q (.str (S (ltr l))) H'
theorem ok_letters_of (T : Tx K mg) : OkN P w K mg base ("letters_of", none) 1 ["text"] (spLetters K) := by
  refine T.F_letters_of.ok sc_letters_of (fun vs H Q E h => ?_) (fun cdv A outer s H vs Q E hr h => ?_)
  · obtain ⟨l, rfl, _⟩ := h
    rfl
  · obtain ⟨l, rfl, hl, hc, q⟩ := h
    refine ⟨_, (pss_one (ps_ret (pe_joinK (K := K) rfl pe_str (pe_sortSet rfl (by rfl) T.z_sorted (by rfl) T.z_set (pv 0)) (by rfl) (by rfl) (by rfl)))), ?_⟩
    have lz : (S l).cps.size = l.length := S_len l
    refine ⟨⟨_, rfl⟩, _, rfl, S l, rfl, Nat.lt_of_le_of_lt (show (S l).cps.size + 1 ≤ 513 by omega) (by decide), fun ys p s nd m np => ?_⟩
    have e := letters_are hc s nd m
    subst e
    have ll := ltr_len l
    have x2 : Xs (tK K) H (upd H p (.lst (((ltr l).map sg).map V.str))) := .new np
    refine ⟨S [], p, (ltr l).map sg, rfl, rfl, .inl (SqL.of (upd_same ..)), ?_, ?_⟩
    · have h1 : ((ltr l).map sg).map Str.length = (ltr l).map fun _ => 1 := by
        rw [List.map_map]
        exact List.map_congr_left fun c _ => S_len [c]
      rw [h1, List.length_map]
      have h2 : ((ltr l).map fun _ => 1).sum = (ltr l).length := by
        rw [List.map_const', List.sum_replicate_nat, Nat.mul_one]
      rw [h2]
      exact Nat.le_trans (show _ ≤ 128 by rw [S_len]; simp; omega) (by decide)
    · have h2 : ((ltr l).map fun c => [c]).flatten = ltr l := by
        induction ltr l with
        | nil => rfl
        | cons a t ih => rw [List.map_cons, List.flatten_cons, ih]; rfl
      have ej : Txt.join (S []) ((ltr l).map sg) = S (ltr l) := by
        rw [show (ltr l).map sg = ((ltr l).map fun c => [c]).map S by rw [List.map_map]; rfl, join_S, h2]
      rw [ej]
      exact q _ x2
def spLevels (K : PySem.W.Frag) : Sp := fun vs H Q E => ∃ l : List Nat, vs = [.str (S l)] ∧ l.length ≤ 10000 ∧ (goodT l → ∀ H' a, Xs (tK K) H H' → Nw H a → H' a = some (.lst ((List.range (wdt l)).map fun k => V.str (sb (rowB (wos l) k)))) → Q (.ref a) H') ∧ (¬ goodT l → ∀ H', Xs (tK K) H H' → E (.ref (He.ga K "BadText")) none H')
theorem ok_levels (T : Tx K mg) : OkN P w K mg base ("levels", none) 3 ["text"] (spLevels K) := by
  refine T.F_levels.ok sc_levels (fun vs H Q E h => ?_) (fun cdv A outer s H vs Q E hr h => ?_)
  · obtain ⟨l, rfl, _⟩ := h
    rfl
  · obtain ⟨l, rfl, hl, q1, q2⟩ := h
    refine ⟨_, (pss_cons (ps_expr (pe_callS (ok_need_text T) (hr.mono (by decide)) (by rfl) T.g_need_text T.F_need_text.kp T.B_need_text psE (pa_cons (pv 0) pa_nil)))
    (pss_cons (ps_set (i := 1) sc_levels.nd rfl (.inr rfl) (pe_callS (ok_letters_of T) (hr.mono (by decide)) (by rfl) T.g_letters_of T.F_letters_of.kp T.B_letters_of psE (pa_cons (pv 0) pa_nil)))
    (pss_cons (ps_set (i := 2) sc_levels.nd rfl (.inr rfl) (pe_callS (ok_needs T) (hr.mono (by decide)) (by rfl) T.g_needs T.F_needs.kp T.B_needs psE (pa_cons (pe_callB (call_max2 rfl) (by rfl) T.z_max b_max (pa_cons pe_int (pa_cons (pe_op op_sub (pe_callB call_len_str (by rfl) T.z_len b_len (pa_cons (pv 1) pa_nil)) pe_int) pa_nil))) pa_nil)))
    (pss_cons (ps_setLc (i := 3) (own := [("sign", 4)]) rfl sc_levels.nd rfl rfl (sw_true rfl rfl rfl (by decide +kernel)) (pi_str (pv 0)) (blkOk_by (N := N_levels) (sc := defScope s_levels) (by decide +kernel)) (fun _ _ _ _ _ => (pg_name (i := 4) sc_levels.nd rfl (.inl rfl))) (fun _ _ _ _ _ => pts_nil) (fun _ _ _ _ _ => (pe_callS (ok_in_bits T) (hr.mono (by decide)) (by rfl) T.g_in_bits T.F_in_bits.kp T.B_in_bits ps0 (pa_cons (pe_m1 F.slot_str_index F.type_str_index mt_sindex (pv 1) (pv 4)) (pa_cons (pv 2) pa_nil)))))
    (pss_cons (ps_set (i := 5) sc_levels.nd rfl (.inl rfl) (pe_lst pa_nil))
    (pss_cons (ps_for (passes_of rfl) rfl (pi_range1 (by rfl) T.z_range (pa_cons (pv 2) pa_nil)) (pg_name (i := 6) sc_levels.nd rfl (.inr rfl))
    (pss_cons (ps_expr (pe_bmK (K := K) rfl F.plainAttrs_list F.slot_list_append F.type_list_append mt_append (pv 5) (pa_cons (pe_joinK (K := K) rfl pe_str (pe_lc (own := [("word", 7)]) rfl sc_levels.nd (pi_listK (K := K) rfl (pv 3)) (blkOk_by (N := N_levels) (sc := defScope s_levels) (by decide +kernel)) (fun _ _ _ _ _ => (pg_name (i := 7) sc_levels.nd rfl (.inl rfl))) (fun _ _ _ _ _ => pts_nil) (fun _ _ _ _ _ => (pe_ix ix_str (pv 7) (pv 6) (fun _ _ => rfl)))) (by rfl) (by rfl) (by rfl)) pa_nil) (by rfl) (by rfl) (by rfl) (by rfl) (by rfl)))
    (pss_one (ps_set (i := 3) sc_levels.nd rfl (.inl rfl) (pe_op op_cat (pe_lc (own := [("word", 7)]) rfl sc_levels.nd (pi_listK (K := K) rfl (pv 3)) (blkOk_by (N := N_levels) (sc := defScope s_levels) (by decide +kernel)) (fun _ _ _ _ _ => (pg_name (i := 7) sc_levels.nd rfl (.inl rfl))) (fun _ _ _ _ _ => (pts_one (pt_cmpR op_eq (pe_ix ix_str (pv 7) (pv 6) (fun _ _ => rfl)) pe_str (nomark _)))) (fun _ _ _ _ _ => (pv 7))) (pe_lc (own := [("word", 7)]) rfl sc_levels.nd (pi_listK (K := K) rfl (pv 3)) (blkOk_by (N := N_levels) (sc := defScope s_levels) (by decide +kernel)) (fun _ _ _ _ _ => (pg_name (i := 7) sc_levels.nd rfl (.inl rfl))) (fun _ _ _ _ _ => (pts_one (pt_cmpR op_eq (pe_ix ix_str (pv 7) (pv 6) (fun _ _ => rfl)) pe_str (nomark _)))) (fun _ _ _ _ _ => (pv 7))))))))
    (pss_one (ps_ret (pv 5))))))))), ?_⟩
    refine ⟨_, rfl, l, rfl, hl, fun g H1 x1 => ?_, fun g H1 x1 => q2 g H1 x1⟩
    have q1 := q1 g
    have hl5 := g.1
    refine ⟨_, rfl, l, rfl, hl5, g.lt, fun H2 x2 => ?_⟩
    have x2 := x1.trans x2
    have ll := ltr_len l
    have hwd := wdt_le l
    refine ⟨_, rfl, _, rfl, by rw [S_len]; exact tfits (by omega), _, _, rfl, rfl, _, _, rfl, _, rfl, fun _ => ?_, fun h => absurd h (by split <;> omega)⟩
    have ew : (if (((S (ltr l)).length : Int) - 1) > 0 then ((S (ltr l)).length : Int) - 1 else 0).toNat = (ltr l).length - 1 := by
      rw [S_len]
      split <;> omega
    rw [ew]
    show gName 2 (V.int ((wdt l : Nat) : Int)) _ _ _
    refine ⟨_, rfl, _, rfl, fun D hD => lcPs (T := tK K) w_str hD (by omega) (fun _ _ => trivial) (fun i => .str (sb (wo l (l.getD i 0)))) ?_ fun H3 x3 e3 => ?_⟩
    · intro i x H' hi hy x1 Q q
      obtain ⟨c, hc, rfl⟩ := hy
      have e : l.getD i 0 = c := by rw [List.getD_eq_getElem?_getD, hc]; rfl
      rw [e] at q
      have hcm := List.mem_of_getElem? hc
      exact ⟨_, rfl, ⟨_, rfl⟩, _, rfl, S (ltr l), S [c], ixc l c, [], rfl, rfl, ix_first hcm (g.lt c hcm), _, rfl, ixc l c, wdt l, rfl, by omega, q _ .refl⟩
    have eb : ((List.range l.length).map fun i => V.str (sb (wo l (l.getD i 0)))) = (rowW (wos l) 0).map fun x => V.str (sb x) := by
      have := kept_gen 0 (fun _ => true) (fun c => V.str (sb (wo l c))) l
      rw [kept_all] at this
      rw [this, List.filter_eq_self.mpr (fun _ _ => rfl)]
      show _ = (l.map (wo l)).map _
      rw [List.map_map]
      rfl
    rw [eb] at e3
    have x3 := x2.trans x3
    refine ⟨by decide, fun p np => ?_⟩
    generalize hH : upd H3 p _ = H4
    have y4 : Xs (tK K) H3 H4 := newE hH np
    have ep : H4 p = some (.lst ((List.range 0).map fun k => V.str (sb (rowB (wos l) k)))) := atE hH
    have hpD : p ≠ D := fun z => by rw [z, e3] at np; cases np
    have e4 := y4.lst e3
    have np0 : Nw H p := x3.nw (.of np)
    have x4 := x3.trans y4
    clear hH np e3 y4
    refine ⟨_, rfl, _, rfl, by omega, by omega, for_it w_range (fun i σ H' => Xs (tK K) H H' ∧ H' p = some (.lst ((List.range i).map fun k => V.str (sb (rowB (wos l) k)))) ∧ ∃ r, p ≠ r ∧ H' r = some (.lst ((rowW (wos l) i).map fun x => V.str (sb x))) ∧ ∃ t4 t6 t7, σ = [some (.str (S l)), some (.str (S (ltr l))), some (.int ((wdt l : Nat) : Int)), some (.ref r), t4, some (.ref p), t6, t7])
      ⟨x4, ep, D, hpD, e4, _, _, _, rfl⟩ (fun _ _ _ _ _ => trivial) ?_ ?_⟩
    · intro i x σ Ha Hb hi hp hy
      obtain ⟨xa, ep, r, hpr, er, t4, t6, t7, rfl⟩ := hp
      obtain ⟨rfl, rfl⟩ := hy
      have hi : i < wdt l := by omega
      rw [show (0 : Int) + (i : Int) = (i : Int) by omega]
      have lw : (rowW (wos l) i).length = l.length := by rw [rowW_len]; exact List.length_map ..
      have wl : ∀ x ∈ rowW (wos l) i, x.length = wdt l := fun x hx => wos_len x ((rowW_mem _ _ x).mp hx)
      have lm : ((rowW (wos l) i).map fun x => V.str (sb x)).length = (rowW (wos l) i).length := List.length_map ..
      have get : ∀ (j : Nat) (v : V), ((rowW (wos l) i).map fun x => V.str (sb x))[j]? = some v → ∃ x, (rowW (wos l) i)[j]? = some x ∧ v = .str (sb x) ∧ (rowW (wos l) i).getD j [] = x ∧ x.length = wdt l := fun j v h => by
        rw [List.getElem?_map] at h
        obtain ⟨x, hx, rfl⟩ := Option.map_eq_some_iff.mp h
        exact ⟨x, hx, rfl, by rw [List.getD_eq_getElem?_getD, hx]; rfl, wl x (List.mem_of_getElem? hx)⟩
      have sig : ∀ x : Wd, x.length = wdt l → (sb x).cps.toList[i]? = some (bc (bk i x)) := fun x hx => by
        show (x.map bc)[i]? = _
        rw [List.getElem?_map, List.getElem?_eq_getElem (by omega)]
        unfold bk
        rw [List.getD_eq_getElem?_getD, List.getElem?_eq_getElem (by omega)]
        rfl
      have szw : ∀ x : Wd, x.length = wdt l → (sb x).length ≤ sizeLine := fun x hx => by rw [sb_len, hx]; exact tfits (by omega)
      -- the level's bits
      refine ⟨_, rfl, .inl ⟨rfl, _, SqL.of ep⟩, ⟨_, rfl⟩, _, rfl, r, rfl, ⟨_, SqL.of er⟩, fun D1 hD1 => lcPs (T := tK K) w_list hD1 (by rw [lm, lw]; omega) (fun _ x => x.seq (SqL.of er)) (fun j => .str (sb [bk i ((rowW (wos l) i).getD j [])])) ?_ fun H5 x5 e5 => ?_⟩
      · intro j v H' hj hy x1 Q q
        obtain ⟨x, hx, rfl, hxd, hxl⟩ := get j v hy
        rw [hxd] at q
        exact ⟨_, rfl, _, rfl, sb x, _, bc (bk i x), rfl, rfl, szw x hxl, atI_nat (sig x hxl), q _ .refl⟩
      have ev : ((List.range ((rowW (wos l) i).map fun x => V.str (sb x)).length).map fun j => V.str (sb [bk i ((rowW (wos l) i).getD j [])])) = (((rowB (wos l) i).map fun b => [b]).map sb).map V.str := by
        rw [lm]
        have := kept_gen [] (fun _ => true) (fun x => V.str (sb [bk i x])) (rowW (wos l) i)
        rw [kept_all] at this
        rw [this, List.filter_eq_self.mpr (fun _ _ => rfl)]
        unfold rowB
        rw [List.map_map, List.map_map, List.map_map]
        rfl
      rw [ev] at e5
      have lb := rowB_len (wos l) i
      have lwo : (wos l).length = l.length := List.length_map ..
      have flat : ((rowB (wos l) i).map fun b => [b]).flatten = rowB (wos l) i := flat1 _
      refine ⟨S [], D1, ((rowB (wos l) i).map fun b => [b]).map sb, rfl, rfl, .inl (SqL.of e5), ?_, ?_⟩
      · rw [sum_len, S_len, ← List.length_flatten, flat, List.length_map, List.length_map, lb, lwo]
        exact tfits (by simp; omega)
      have ej : Txt.join (S []) (((rowB (wos l) i).map fun b => [b]).map sb) = sb (rowB (wos l) i) := by
        rw [show S [] = sb [] from rfl, join_sb, flat]
      rw [ej]
      have ep5 := x5.lst ep
      have er5 := x5.lst er
      refine ⟨p, _, _, rfl, rfl, ep5, Nat.lt_of_le_of_lt (show _ ≤ 100 by rw [List.length_map, List.length_range]; omega) (by decide), ?_⟩
      generalize hH : upd H5 p _ = H6
      have x6 : Xs (tK K) H H6 := by rw [← hH]; exact (xa.trans x5).mut np0 ep5
      have ep6 : H6 p = some (.lst ((List.range (i + 1)).map fun k => V.str (sb (rowB (wos l) k)))) := by
        rw [atE hH, List.range_succ, List.map_append]
        rfl
      have er6 : H6 r = some (.lst ((rowW (wos l) i).map fun x => V.str (sb x))) := by rw [← hH, upd_ne (Ne.symm hpr)]; exact er5
      clear hH ep5 er5 e5 x5
      have half : ∀ (b : Bool) (z : Str), z = sb [b] → ∀ (x : Wd), x.length = wdt l → decide (V.str ⟨#[bc (bk i x)]⟩ = V.str z) = (bk i x == b) := fun b z hz x _ => by rw [hz]; exact sgn_dec _ _
      have kp : ∀ b : Bool, kept ((rowW (wos l) i).map fun x => V.str (sb x)).length (fun j => bk i ((rowW (wos l) i).getD j []) == b) (fun j => .str (sb ((rowW (wos l) i).getD j []))) = ((rowW (wos l) i).filter fun x => bk i x == b).map fun x => V.str (sb x) := fun b => by
        rw [lm]
        exact kept_gen [] (fun x => bk i x == b) (fun x => V.str (sb x)) (rowW (wos l) i)
      refine ⟨_, rfl, r, rfl, ⟨_, SqL.of er6⟩, fun D2 hD2 => lcFs (T := tK K) w_list hD2 (by rw [lm, lw]; omega) (fun _ x => x.seq (SqL.of er6)) (fun j => bk i ((rowW (wos l) i).getD j []) == false) (fun j => .str (sb ((rowW (wos l) i).getD j []))) ?_ ?_ fun H7 x7 e7 => ?_⟩
      · intro j v H' hj hy x1 Q q
        obtain ⟨x, hx, rfl, hxd, hxl⟩ := get j v hy
        rw [hxd] at q
        refine ⟨_, rfl, _, rfl, sb x, _, bc (bk i x), rfl, rfl, szw x hxl, atI_nat (sig x hxl), rfl, _, rfl, ?_⟩
        rw [half false _ sb_0 x hxl]
        exact q _ .refl
      · intro j v H' hj hy hf x1 Q q
        obtain ⟨x, hx, rfl, hxd, hxl⟩ := get j v hy
        rw [hxd] at q
        exact ⟨_, rfl, q _ .refl⟩
      rw [kp] at e7
      have er7 := x7.lst er6
      refine ⟨_, rfl, r, rfl, ⟨_, SqL.of er7⟩, fun D3 hD3 => lcFs (T := tK K) w_list hD3 (by rw [lm, lw]; omega) (fun _ x => x.seq (SqL.of er7)) (fun j => bk i ((rowW (wos l) i).getD j []) == true) (fun j => .str (sb ((rowW (wos l) i).getD j []))) ?_ ?_ fun H8 x8 e8 => ?_⟩
      · intro j v H' hj hy x1 Q q
        obtain ⟨x, hx, rfl, hxd, hxl⟩ := get j v hy
        rw [hxd] at q
        refine ⟨_, rfl, _, rfl, sb x, _, bc (bk i x), rfl, rfl, szw x hxl, atI_nat (sig x hxl), rfl, _, rfl, ?_⟩
        rw [half true _ sb_1 x hxl]
        exact q _ .refl
      · intro j v H' hj hy hf x1 Q q
        obtain ⟨x, hx, rfl, hxd, hxl⟩ := get j v hy
        rw [hxd] at q
        exact ⟨_, rfl, q _ .refl⟩
      rw [kp] at e8
      have e7 := x8.lst e7
      have ep8 := x8.lst (x7.lst ep6)
      refine ⟨_, _, _, _, rfl, rfl, e7, e8, ?_, fun p9 n9 => ?_⟩
      · rw [List.length_map, List.length_map, filt_two (bk i), lw]
        exact tfits (by omega)
      generalize hH : upd H8 p9 _ = H9
      have x9 : Xs (tK K) H8 H9 := newE hH n9
      have hp9 : p ≠ p9 := fun z => by rw [← z, ep8] at n9; cases n9
      refine ⟨x6.trans (x7.trans (x8.trans x9)), x9.lst ep8, p9, hp9, ?_, _, _, _, rfl⟩
      rw [atE hH, rowW_succ, List.map_append]
    · intro σ Ha hp
      obtain ⟨xa, ep, r, hpr, er, t4, t6, t7, rfl⟩ := hp
      refine ⟨_, rfl, q1 Ha p xa np0 ?_⟩
      rw [ep]
      rfl
def TextAt (K : PySem.W.Frag) (H : Hp) (t : Addr) (l : List Nat) : Prop := goodT l ∧ ∃ (dx R : Addr) (rs : List Addr), H t = some (.ins (He.ga K "Text") dx [("rows", .ref R), ("signs", .str (S (ltr l))), ("length", .int l.length)]) ∧ H R = some (.lst (rs.map V.ref)) ∧ rs.length = wdt l ∧ ∀ k a, rs[k]? = some a → ∃ n, RowAt K H a (rowB (wos l) k) n
theorem textSeen {R : Addr} {z : Str} {k : Int} : ∀ fs' n, ([("rows", .ref R), ("signs", .str z), ("length", .int k)] : List (Str × V)) ≠ fs' ++ sn n := fun fs' n h => by
  have h2 := congrArg List.getLast? h
  unfold sn at h2
  rw [List.getLast?_concat] at h2
  have h3 : (some (("length" : Str), V.int k) : Option (Str × V)) = some (("seen" : Str), V.int n) := h2
  injection h3 with h3
  have h4 := congrArg Prod.fst h3
  exact absurd (show Str.ofString "length" = Str.ofString "seen" from h4) (by decide +kernel)
theorem noIns : ∀ fs' n, ([] : List (Str × V)) ≠ fs' ++ sn n := fun fs' n h => by
  have := congrArg List.length h
  rw [List.length_append] at this
  simp [sn] at this
theorem TextAt.xt {H H' : Hp} {t : Addr} {l : List Nat} {T : List (Addr × Str)} (h : TextAt K H t l) (x : Xt T H H') : TextAt K H' t l := by
  obtain ⟨g, dx, R, rs, e, eR, hl, hr⟩ := h
  exact ⟨g, dx, R, rs, x.ins e textSeen, x.lst eR, hl, fun k a h => by
    obtain ⟨n, hn⟩ := hr k a h
    exact hn.xt x⟩
def spText (K : PySem.W.Frag) : Sp := fun vs H Q E => ∃ (H0 : Hp) (t dx : Addr) (l : List Nat), vs = [.ref t, .str (S l)] ∧ Xt (tK K) H0 H ∧ Nw H0 t ∧ H t = some (.ins (He.ga K "Text") dx []) ∧ l.length ≤ 10000 ∧
  (goodT l → ∀ H', Xt (tK K) H0 H' → TextAt K H' t l → Q .non H') ∧ (¬ goodT l → ∀ H', Xt (tK K) H0 H' → E (.ref (He.ga K "BadText")) none H')
theorem ok_Text_init (T : Tx K mg) : OkN P w K mg base ("Text", some "__init__") 5 ["self", "text"] (spText K) := by
  refine T.F_Text_init.ok sc_Text_init (fun vs H Q E h => ?_) (fun cdv A outer s H vs Q E hr h => ?_)
  · obtain ⟨H0, t, dx, l, rfl, _⟩ := h
    rfl
  · obtain ⟨H0, t, dx, l, rfl, x0, nt, e, hl, q1, q2⟩ := h
    refine ⟨_, (pss_cons (ps_fld (pv 0) (pe_lc (own := [("bits", 2)]) rfl sc_Text_init.nd (pi_listK (K := K) rfl (pe_callS (ok_levels T) (hr.mono (by decide)) (by rfl) T.g_levels T.F_levels.kp T.B_levels psE (pa_cons (pv 1) pa_nil))) (blkOk_by (N := N_Text_init) (sc := defScope s_Text_init) (by decide +kernel)) (fun _ _ _ _ _ => (pg_name (i := 2) sc_Text_init.nd rfl (.inl rfl))) (fun _ _ _ _ _ => pts_nil) (fun _ _ _ _ _ => (pe_make (dvs := []) T.mk_Row (ok_Row_init T) (hr.mono (by decide)) (by rfl) T.g_Row T.B_Row_init .nil psP0 (pa_cons (pv 2) pa_nil)))) rfl)
    (pss_cons (ps_fld (pv 0) (pe_callS (ok_letters_of T) (hr.mono (by decide)) (by rfl) T.g_letters_of T.F_letters_of.kp T.B_letters_of psE (pa_cons (pv 1) pa_nil)) rfl)
    (pss_one (ps_fld (pv 0) (pe_callB call_len_str (by rfl) T.z_len b_len (pa_cons (pv 1) pa_nil)) rfl)))), ?_⟩
    refine ⟨_, rfl, l, rfl, hl, fun g H1 a x1 na ea => ?_, fun g H1 x1 => q2 g H1 (x0.trans x1.up)⟩
    have q1 := q1 g
    have lwo : (wos l).length = l.length := List.length_map ..
    have hl5 := g.1
    have hwd := wdt_le l
    have lm : ((List.range (wdt l)).map fun k => V.str (sb (rowB (wos l) k))).length = wdt l := by rw [List.length_map, List.length_range]
    have e1 := x1.same e fun ps z => by cases z
    have x1 := x0.trans x1.up
    refine ⟨a, rfl, ⟨_, SqL.of ea⟩, fun D hD => lcV (lo := True) (T := tK K) (fun i vs H' => vs.length = i ∧ ∀ k v, vs[k]? = some v → ∃ r, v = .ref r ∧ r ≠ D ∧ ∃ n, RowAt K H' r (rowB (wos l) k) n) w_list hD (by rw [lm]; omega) (fun _ x => x.seq (SqL.of ea)) ⟨rfl, fun k v h => by cases h⟩ ?_ fun H2 vs x2 o2 l2 e2 => ?_⟩
    · intro i v H' vs hi hy x2 o2 e2 Q q
      obtain ⟨lvs, o2⟩ := o2
      rw [List.getElem?_map] at hy
      obtain ⟨k, hk, rfl⟩ := Option.map_eq_some_iff.mp hy
      have hik : i < wdt l := by rw [lm] at hi; exact hi
      rw [List.getElem?_range hik] at hk
      cases hk
      refine ⟨_, rfl, fun r dr hrn hdn hne => ?_⟩
      have xm : Xt (tK K) H' (upd (upd H' dr (.own r)) r (.ins (He.ga K "Row") dr [])) := (Xt.new hdn).trans (.new (by rw [upd_ne (Ne.symm hne)]; exact hrn))
      have lb : (rowB (wos l) i).length = l.length := by rw [rowB_len, lwo]
      refine ⟨H', r, dr, sb (rowB (wos l) i), rfl, xm, .of hrn, upd_same .., by rw [sb_len]; omega, fun l' el _ H3 x3 er => ⟨rfl, ?_⟩, fun h => absurd ⟨_, rfl⟩ h, fun l' el h => absurd h (by rw [← sb_inj el]; omega)⟩
      have el := sb_inj el
      subst el
      have hrD : r ≠ D := fun z => by rw [z, e2] at hrn; cases hrn
      have keep : ∀ {r2 : Addr} {bs : List Bool} {n : Int}, r2 ≠ D → RowAt K H3 r2 bs n → RowAt K (upd H3 D (.lst (vs ++ [.ref r]))) r2 bs n := fun h1 h2 => ⟨h2.1, h2.2.choose, by rw [upd_ne h1]; exact h2.2.choose_spec⟩
      refine q (.ref r) H3 x3 ⟨by rw [List.length_append, lvs]; rfl, fun k v hv => ?_⟩
      rcases snoc_get hv with hv | ⟨rfl, rfl⟩
      · obtain ⟨r2, rfl, h1, n, h2⟩ := o2 k v hv
        obtain ⟨n2, h3⟩ := h2.xt x3
        exact ⟨r2, rfl, h1, n2, keep h1 h3⟩
      · rw [lvs]
        exact ⟨r, rfl, hrD, 0, keep hrD er⟩
    · obtain ⟨lvs, o2⟩ := o2
      rw [lm] at lvs
      obtain ⟨rs, rfl⟩ : ∃ rs : List Addr, vs = rs.map V.ref := by
        refine ⟨vs.map fun v => match v with | .ref r => r | _ => 0, ?_⟩
        rw [List.map_map]
        conv => lhs; rw [← List.map_id vs]
        refine List.map_congr_left fun v hv => ?_
        obtain ⟨k, hk⟩ := List.getElem?_of_mem hv
        obtain ⟨r, rfl, _⟩ := o2 k v hk
        rfl
      have hrs : ∀ k r, rs[k]? = some r → r ≠ D ∧ ∃ n, RowAt K H2 r (rowB (wos l) k) n := fun k r h => by
        obtain ⟨r2, e, h1, h2⟩ := o2 k (.ref r) (by rw [List.getElem?_map, h]; rfl)
        cases e
        exact ⟨h1, h2⟩
      rw [List.length_map] at lvs
      have et := x2.ins e1 noIns
      have x2 := x1.trans x2
      have htD : t ≠ D := fun z => by rw [z, e2] at et; cases et
      have htr : ∀ k r, rs[k]? = some r → r ≠ t := fun k r h z => by
        obtain ⟨_, n, _, dr, er⟩ := hrs k r h
        rw [z, et] at er
        injection er with er
        injection er with _ _ er
        exact absurd (congrArg List.length er) (by simp [rowF, sn])
      have put : ∀ (H' : Hp) (o : HO), (∀ k r, rs[k]? = some r → ∃ n, RowAt K H' r (rowB (wos l) k) n) → ∀ k r, rs[k]? = some r → ∃ n, RowAt K (upd H' t o) r (rowB (wos l) k) n := fun H' o h k r hk => by
        obtain ⟨n, hn⟩ := h k r hk
        exact ⟨n, hn.1, hn.2.choose, by rw [upd_ne (htr k r hk)]; exact hn.2.choose_spec⟩
      refine ⟨_, rfl, t, _, dx, _, rfl, et, T.k_Text, T.n_Text_rows, by exact (by decide : 0 < 1000), ?_⟩
      have r3 := put H2 (.ins (He.ga K "Text") dx [("rows", .ref D)]) fun k r h => (hrs k r h).2
      have x3 := x2.put (o := .ins (He.ga K "Text") dx [("rows", .ref D)]) nt (.ins et)
      have e3 : (upd H2 t (.ins (He.ga K "Text") dx [("rows", .ref D)])) t = some (.ins (He.ga K "Text") dx [("rows", .ref D)]) := upd_same ..
      have d3 : (upd H2 t (.ins (He.ga K "Text") dx [("rows", .ref D)])) D = some (.lst (rs.map V.ref)) := by rw [upd_ne (Ne.symm htD)]; exact e2
      show tSeq _ _ _ _ (upd H2 t (.ins (He.ga K "Text") dx [("rows", .ref D)]))
      generalize upd H2 t (.ins (He.ga K "Text") dx [("rows", .ref D)]) = H3 at x3 e3 d3 r3 ⊢
      refine ⟨_, rfl, l, rfl, hl5, g.lt, fun H4 x4 => ?_⟩
      have e4 := x4.same e3 fun ps z => by cases z
      have d4 := x4.lst d3
      have r4 : ∀ k r, rs[k]? = some r → ∃ n, RowAt K H4 r (rowB (wos l) k) n := fun k r h => by
        obtain ⟨n, hn⟩ := r3 k r h
        exact ⟨n, hn.xs x4⟩
      have x4 := x3.trans x4.up
      refine ⟨_, rfl, t, _, dx, _, rfl, e4, T.k_Text, T.n_Text_signs, by exact (by decide : 1 < 1000), ?_⟩
      have r5 := put H4 (.ins (He.ga K "Text") dx [("rows", .ref D), ("signs", .str (S (ltr l)))]) r4
      have x5 := x4.put (o := .ins (He.ga K "Text") dx [("rows", .ref D), ("signs", .str (S (ltr l)))]) nt (.ins e4)
      have e5 : (upd H4 t (.ins (He.ga K "Text") dx [("rows", .ref D), ("signs", .str (S (ltr l)))])) t = some (.ins (He.ga K "Text") dx [("rows", .ref D), ("signs", .str (S (ltr l)))]) := upd_same ..
      have d5 : (upd H4 t (.ins (He.ga K "Text") dx [("rows", .ref D), ("signs", .str (S (ltr l)))])) D = some (.lst (rs.map V.ref)) := by rw [upd_ne (Ne.symm htD)]; exact d4
      show tSeq _ _ _ _ (upd H4 t (.ins (He.ga K "Text") dx [("rows", .ref D), ("signs", .str (S (ltr l)))]))
      generalize upd H4 t (.ins (He.ga K "Text") dx [("rows", .ref D), ("signs", .str (S (ltr l)))]) = H5 at x5 e5 d5 r5 ⊢
      refine ⟨_, rfl, _, rfl, by rw [S_len]; exact tfits (by omega), _, rfl, t, _, dx, _, rfl, e5, T.k_Text, T.n_Text_length, by exact (by decide : 2 < 1000), ?_⟩
      refine q1 _ (x5.put nt (.ins e5)) ⟨g, dx, D, rs, ?_, by rw [upd_ne (Ne.symm htD)]; exact d5, lvs, put H5 _ r5⟩
      rw [upd_same, S_len]
      rfl
def spTNeed (K : PySem.W.Frag) : Sp := fun vs H Q E => ∃ (r : Addr) (b : Bool), vs = [.ref r, .bl b] ∧ (b = true → Q .non H) ∧ (b = false → E (.ref (He.ga K "BadPlace")) none H)
theorem ok_Text_need (T : Tx K mg) : OkN P w K mg base ("Text", some "need") 1 ["self", "good"] (spTNeed K) := by
  refine T.F_Text_need.ok sc_Text_need (fun vs H Q E h => ?_) (fun cdv A outer s H vs Q E hr h => ?_)
  · obtain ⟨r, b, rfl, _⟩ := h
    rfl
  · obtain ⟨r, b, rfl, q1, q2⟩ := h
    refine ⟨_, (pss_one (ps_if (pt_not (pt_val (pv 1)))
    (pss_one (ps_rz T.x_BadPlace rfl (by decide))) pss_nil)), ?_⟩
    cases b with
    | true => exact ⟨_, rfl, true, rfl, iteF (q1 rfl)⟩
    | false => exact ⟨_, rfl, false, rfl, iteT (q2 rfl)⟩
def spNeedSign (K : PySem.W.Frag) : Sp := fun vs H Q E => ∃ (r : Addr) (z : Str), vs = [.ref r, .str z] ∧ z.length ≤ 100000 ∧ (∀ c, z = sg c → okSg c = true → Q .non H) ∧ ((∀ c, z = sg c → okSg c = false) → E (.ref (He.ga K "BadText")) none H)
theorem ok_Text_need_sign (T : Tx K mg) : OkN P w K mg base ("Text", some "need_sign") 2 ["self", "sign"] (spNeedSign K) := by
  refine T.F_Text_need_sign.ok sc_Text_need_sign (fun vs H Q E h => ?_) (fun cdv A outer s H vs Q E hr h => ?_)
  · obtain ⟨r, z, rfl, _⟩ := h
    rfl
  · obtain ⟨r, z, rfl, hz, q1, q2⟩ := h
    refine ⟨_, (pss_one (ps_if (pt_not (pt_val (pe_callS (ok_is_sign T) (hr.mono (by decide)) (by rfl) T.g_is_sign T.F_is_sign.kp T.B_is_sign psE (pa_cons (pv 1) pa_nil))))
    (pss_one (ps_rz T.x_BadText rfl (by decide))) pss_nil)), ?_⟩
    refine ⟨_, rfl, z, rfl, hz, fun c hc => ⟨_, rfl, ?_⟩, fun h1 => ⟨_, rfl, iteT (q2 fun c hc => absurd (by rw [hc]; exact S_len [c]) h1)⟩⟩
    cases h : okSg c with
    | true => exact iteF (q1 c hc h)
    | false => exact iteT (q2 fun d hd => by rw [← sg_inj (hc.symm.trans hd)]; exact h)
def spNeedSpan (K : PySem.W.Frag) : Sp := fun vs H Q E => ∃ (t : Addr) (l : List Nat) (f e : Int), vs = [.ref t, .int f, .int e] ∧ TextAt K H t l ∧ ((0 ≤ f ∧ f ≤ e ∧ e ≤ l.length) → Q .non H) ∧ (¬ (0 ≤ f ∧ f ≤ e ∧ e ≤ l.length) → E (.ref (He.ga K "BadPlace")) none H)
theorem ok_Text_need_span (T : Tx K mg) : OkN P w K mg base ("Text", some "need_span") 2 ["self", "first", "end"] (spNeedSpan K) := by
  refine T.F_Text_need_span.ok sc_Text_need_span (fun vs H Q E h => ?_) (fun cdv A outer s H vs Q E hr h => ?_)
  · obtain ⟨t, l, f, e, rfl, _⟩ := h
    rfl
  · obtain ⟨t, l, f, e, rfl, ⟨g, dx, R, rs, ht, _⟩, q1, q2⟩ := h
    refine ⟨_, (pss_one (ps_expr (pe_meth (dvs := []) (pv 0) T.k_Text T.M_Text_need (ok_Text_need T) (hr.mono (by decide)) T.B_Text_need .nil psP (pa_cons (pe_chain3 op_le op_le op_le pe_int (pv 1) (pv 2) (pe_fldK (K := K) rfl (pv 0) (by rfl))) pa_nil)))), ?_⟩
    refine ⟨_, rfl, t, dx, _, rfl, ht, rfl, _, rfl, _, _, rfl, rfl, _, rfl, ite2 (fun h1 => ?_) (fun h1 => ?_)⟩
    · have h1 := of_decide_eq_true h1
      refine ⟨_, rfl, _, _, rfl, rfl, _, rfl, ite2 (fun h2 => ?_) (fun h2 => ?_)⟩
      · have h2 := of_decide_eq_true h2
        refine ⟨_, rfl, t, _, dx, _, _, rfl, ht, T.k_Text, T.n_Text_length, rfl, _, _, rfl, rfl, t, _, rfl, fun h3 => ?_, fun h3 => ?_⟩
        · exact q1 ⟨h1, h2, of_decide_eq_true h3⟩
        · exact q2 fun z => by rw [decide_eq_true z.2.2] at h3; cases h3
      · exact ⟨t, false, rfl, (fun z => by cases z), fun _ => q2 fun z => h2 (decide_eq_true z.2.1)⟩
    · exact ⟨t, false, rfl, (fun z => by cases z), fun _ => q2 fun z => h1 (decide_eq_true z.1)⟩
def spGone (K : PySem.W.Frag) : Sp := fun vs H Q E => ∃ (t r : Addr) (l : List Bool) (n : Int) (p : Nat) (b : Bool), vs = [.ref t, .ref r, .int p, .int b.toNat] ∧ RowAt K H r l n ∧ p ≤ l.length ∧ ∀ H', Xt (tK K) H H' → Q (.int ((gnn l p b : Nat) : Int)) H'
theorem ok_Text_gone (T : Tx K mg) : OkN P w K mg base ("Text", some "gone") 9 ["self", "row", "place", "bit"] (spGone K) := by
  refine T.F_Text_gone.ok sc_Text_gone (fun vs H Q E h => ?_) (fun cdv A outer s H vs Q E hr h => ?_)
  · obtain ⟨t, r, l, n, p, b, rfl, _⟩ := h
    rfl
  · obtain ⟨t, r, l, n, p, b, rfl, hrow, hp, q⟩ := h
    refine ⟨_, (pss_cons (ps_if (pt_cmpR op_eq (pv 3) pe_int (nomark _))
    (pss_one (ps_ret (pe_op op_add (pe_meth (dvs := []) (pv 1) T.k_Row T.M_Row_noughts (ok_Row_noughts T) (hr.mono (by decide)) T.B_Row_noughts .nil psP (pa_cons (pe_meth0 (dvs := []) (pv 1) T.k_Row T.M_Row_size (ok_Row_size T) (hr.mono (by decide)) T.B_Row_size .nil psP) pa_nil)) (pe_meth (dvs := []) (pv 1) T.k_Row T.M_Row_ones (ok_Row_ones T) (hr.mono (by decide)) T.B_Row_ones .nil psP (pa_cons (pv 2) pa_nil))))) pss_nil)
    (pss_one (ps_ret (pe_meth (dvs := []) (pv 1) T.k_Row T.M_Row_noughts (ok_Row_noughts T) (hr.mono (by decide)) T.B_Row_noughts .nil psP (pa_cons (pv 2) pa_nil))))), ?_⟩
    have ⟨hl, dx, er⟩ := hrow
    cases b with
    | true =>
      refine ⟨_, rfl, rfl, _, rfl, ite2 (fun _ => ?_) (fun h => absurd (decide_eq_true rfl) h)⟩
      refine ⟨_, rfl, r, dx, _, rfl, er, rfl, _, rfl, r, dx, _, rfl, er, rfl, r, l, n, rfl, hrow, r, l, n, (l.length : Int), rfl, hrow, fun j hj hjl H2 x2 hrow2 => ?_, fun h => absurd h (by omega)⟩
      obtain rfl : l.length = j := by omega
      have ⟨_, dx2, er2⟩ := hrow2
      refine ⟨_, rfl, r, dx2, _, rfl, er2, rfl, _, rfl, r, l, _, (p : Int), rfl, hrow2, fun j hj hjl H3 x3 _ => ?_, fun h => absurd h (by omega)⟩
      obtain rfl : p = j := by omega
      refine ⟨_, _, rfl, rfl, ?_⟩
      have := q H3 (x2.trans x3)
      exact this
    | false =>
      refine ⟨_, rfl, rfl, _, rfl, ite2 (fun h => absurd h (by decide)) (fun _ => ?_)⟩
      refine ⟨_, rfl, r, dx, _, rfl, er, rfl, _, rfl, r, l, n, (p : Int), rfl, hrow, fun j hj hjl H3 x3 _ => ?_, fun h => absurd h (by omega)⟩
      obtain rfl : p = j := by omega
      exact q H3 x3
end
end Tw

set_option maxHeartbeats 4000000
namespace Tw
open PySem PySem.Spec PyProof.Rows L2 LamX
section
variable {P : Program} {w : World} {K : PySem.W.Frag} {mg : Str → Option Value} {base : Heap}
theorem bit_txt (b : Bool) : (Str.ofString (toString ((b.toNat : Nat) : Int)) : Str) = sb [b] := by cases b <;> decide +kernel
theorem spanW_len {α : Type} {l : List α} {f e : Nat} (he : e ≤ l.length) : (spanW l f e).length = e - f := by
  unfold spanW
  rw [List.length_drop, List.length_take]
  omega
theorem same_zero (x : Wd) (V : List Wd) : V.filter (same 0 x) = V := List.filter_eq_self.mpr fun _ _ => rfl
theorem same_take (k : Nat) (v y : Wd) : same k (v.take k) y = same k v y := by
  unfold same
  rw [List.take_take, Nat.min_self]
theorem TextAt.still {H H' : Hp} {t dx R : Addr} {rs : List Addr} {l : List Nat} {fs : List (Str × V)} {T : List (Addr × Str)} (x : Xt T H H') (h : TextAt K H t l) (et : H t = some (.ins (He.ga K "Text") dx [("rows", .ref R), ("signs", .str (S (ltr l))), ("length", .int l.length)])) (eR : H R = some (.lst (rs.map V.ref))) : ∀ k a, rs[k]? = some a → ∃ n, RowAt K H' a (rowB (wos l) k) n := by
  obtain ⟨_, dx2, R2, rs2, e2, eR2, _, hr⟩ := h.xt x
  have e1 := x.ins et textSeen
  rw [e2] at e1
  injection e1 with e1
  injection e1 with _ _ e1
  injection e1 with e1 _
  have e1 := congrArg Prod.snd e1
  injection e1 with e1
  subst e1
  have e3 := x.lst eR
  rw [eR2] at e3
  injection e3 with e3
  injection e3 with e3
  have e4 := (List.map_inj_right (f := V.ref) fun x y h => by injection h).mp e3
  subst e4
  exact hr
def spBelow (K : PySem.W.Frag) : Sp := fun vs H Q E => ∃ (t : Addr) (l : List Nat) (f e : Int) (z : Str), vs = [.ref t, .int f, .int e, .str z] ∧ TextAt K H t l ∧ z.length ≤ 100000 ∧
  ((∃ a b s : Nat, f = a ∧ e = b ∧ z = sg s ∧ okSg s = true ∧ a ≤ b ∧ b ≤ l.length ∧ ∀ H', Xt (tK K) H H' → Q (.int (((spanW l a b).countP fun d => decide (d < s) : Nat) : Int)) H') ∨
   (¬ (0 ≤ f ∧ f ≤ e ∧ e ≤ l.length) ∧ E (.ref (He.ga K "BadPlace")) none H) ∨ ((0 ≤ f ∧ f ≤ e ∧ e ≤ l.length) ∧ (∀ c, z = sg c → okSg c = false) ∧ E (.ref (He.ga K "BadText")) none H))
set_option maxHeartbeats 600000 in
theorem ok_Text_below (T : Tx K mg) : OkN P w K mg base ("Text", some "below") 12 ["self", "first", "end", "sign"] (spBelow K) := by
  refine T.F_Text_below.ok sc_Text_below (fun vs H Q E h => ?_) (fun cdv A outer s H vs Q E hr h => ?_)
  · obtain ⟨t, l, f, e, z, rfl, _⟩ := h
    rfl
  · obtain ⟨t, l, f, e, z, rfl, hT, hz, hq⟩ := h
    have ⟨g, dx, R, rs, et, eR, lrs, hrs⟩ := hT
    refine ⟨_, (pss_cons (ps_expr (pe_meth (dvs := []) (pv 0) T.k_Text T.M_Text_need_span (ok_Text_need_span T) (hr.mono (by decide)) T.B_Text_need_span .nil psP (pa_cons (pv 1) (pa_cons (pv 2) pa_nil))))
    (pss_cons (ps_expr (pe_meth (dvs := []) (pv 0) T.k_Text T.M_Text_need_sign (ok_Text_need_sign T) (hr.mono (by decide)) T.B_Text_need_sign .nil psP (pa_cons (pv 3) pa_nil)))
    (pss_cons (ps_set (i := 4) sc_Text_below.nd rfl (.inl rfl) (pe_callB (call_len_seqK (K := K) rfl) (by rfl) T.z_len b_len (pa_cons (pe_lc (own := [("one", 5)]) rfl sc_Text_below.nd (pi_str (pe_fldK (K := K) rfl (pv 0) (by rfl))) (blkOk_by (N := N_Text_below) (sc := defScope s_Text_below) (by decide +kernel)) (fun _ _ _ _ _ => (pg_name (i := 5) sc_Text_below.nd rfl (.inl rfl))) (fun _ _ _ _ _ => (pts_one (pt_cmpR op_lt_str (pv 5) (pv 3) (nomark _)))) (fun _ _ _ _ _ => (pv 5))) pa_nil)))
    (pss_cons (ps_if (pt_cmpR op_eq (pv 4) (pe_callB call_len_str (by rfl) T.z_len b_len (pa_cons (pe_fldK (K := K) rfl (pv 0) (by rfl)) pa_nil)) (nomark _))
    (pss_one (ps_ret (pe_op op_sub (pv 2) (pv 1)))) pss_nil)
    (pss_cons (ps_set (i := 6) sc_Text_below.nd rfl (.inl rfl) pe_int)
    (pss_cons (ps_for (passes_of rfl) rfl (pi_zipSK (K := K) rfl (by rfl) T.z_zip (pa_cons (pe_fldK (K := K) rfl (pv 0) (by rfl)) (pa_cons (pe_callS (ok_in_bits T) (hr.mono (by decide)) (by rfl) T.g_in_bits T.F_in_bits.kp T.B_in_bits psE (pa_cons (pv 4) (pa_cons (pe_callB (call_len_seqK (K := K) rfl) (by rfl) T.z_len b_len (pa_cons (pe_fldK (K := K) rfl (pv 0) (by rfl)) pa_nil)) pa_nil))) pa_nil)) (by rfl) (by rfl)) (pg_tupK (K := K) (n := 2) rfl rfl (pgs_cons (pg_name (i := 7) sc_Text_below.nd rfl (.inl rfl)) (pgs_cons (pg_name (i := 5) sc_Text_below.nd rfl (.inl rfl)) pgs_nil)) (by rfl) (by rfl))
    (pss_cons (ps_if (pt_cmpR op_eq (pv 5) pe_str (nomark _))
    (pss_one (ps_set (i := 6) sc_Text_below.nd rfl (.inl rfl) (pe_op op_sub (pe_op op_add (pv 6) (pe_meth (dvs := []) (pv 7) T.k_Row T.M_Row_noughts (ok_Row_noughts T) (hr.mono (by decide)) T.B_Row_noughts .nil psP (pa_cons (pv 2) pa_nil))) (pe_meth (dvs := []) (pv 7) T.k_Row T.M_Row_noughts (ok_Row_noughts T) (hr.mono (by decide)) T.B_Row_noughts .nil psP (pa_cons (pv 1) pa_nil))))) pss_nil)
    (pss_cons (ps_set (i := 1) sc_Text_below.nd rfl (.inl rfl) (pe_meth (dvs := []) (pv 0) T.k_Text T.M_Text_gone (ok_Text_gone T) (hr.mono (by decide)) T.B_Text_gone .nil psP (pa_cons (pv 7) (pa_cons (pv 1) (pa_cons (pe_callTy call_int_str (by rfl) T.z_int b_int (pa_cons (pv 5) pa_nil)) pa_nil)))))
    (pss_one (ps_set (i := 2) sc_Text_below.nd rfl (.inl rfl) (pe_meth (dvs := []) (pv 0) T.k_Text T.M_Text_gone (ok_Text_gone T) (hr.mono (by decide)) T.B_Text_gone .nil psP (pa_cons (pv 7) (pa_cons (pv 2) (pa_cons (pe_callTy call_int_str (by rfl) T.z_int b_int (pa_cons (pv 5) pa_nil)) pa_nil)))))))))
    (pss_one (ps_ret (pv 6))))))))), ?_⟩
    refine ⟨_, rfl, t, dx, _, rfl, et, rfl, _, rfl, _, rfl, t, l, f, e, rfl, hT, fun h1 => ?_, fun h1 => ?_⟩
    · refine ⟨_, rfl, t, dx, _, rfl, et, rfl, _, rfl, t, z, rfl, hz, fun c hc ok => ?_, fun bad => ?_⟩
      · rcases hq with ⟨a, b, s, rfl, rfl, hs, ok, hab, hbl, q⟩ | ⟨hbad, _⟩ | ⟨_, hbad, _⟩
        · subst hs
          obtain rfl := sg_inj hc
          have lwo : (wos l).length = l.length := List.length_map ..
          have hwd := wdt_le l
          have hl5 := g.1
          have ll := ltr_len l
          have hs := okSg_iff.mp ok
          obtain ⟨Es, hEs⟩ : ∃ Es, Es = spanW (wos l) a b := ⟨_, rfl⟩
          have lE : Es.length = b - a := by rw [hEs]; exact spanW_len (by omega)
          have lS : (S (ltr l)).length = (ltr l).length := S_len _
          refine ⟨_, rfl, t, _, dx, _, _, rfl, et, T.k_Text, T.n_Text_signs, rfl, _, rfl, fun D hD => lcFs (T := tK K) w_str hD (by omega) (fun _ _ => trivial) (fun i => decide ((ltr l).getD i 0 < s)) (fun i => .str (sg ((ltr l).getD i 0))) ?_ ?_ fun H2 x2 e2 => ?_⟩
          · intro i x H' hi hy x1 Q q
            obtain ⟨d, hd, rfl⟩ := hy
            have e : (ltr l).getD i 0 = d := by rw [List.getD_eq_getElem?_getD, hd]; rfl
            rw [e] at q
            refine ⟨_, rfl, _, rfl, _, _, rfl, rfl, _, rfl, ?_⟩
            have e2 : decide ((S [d]).cps.toList < (sg s).cps.toList) = decide (d < s) := by
              refine decide_eq_decide.mpr ?_
              show ([d] : List Nat) < [s] ↔ _
              rw [List.cons_lt_cons_iff]
              simp
            rw [e2]
            exact q _ .refl
          · intro i x H' hi hy hf x1 Q q
            obtain ⟨d, hd, rfl⟩ := hy
            have e : (ltr l).getD i 0 = d := by rw [List.getD_eq_getElem?_getD, hd]; rfl
            rw [e] at q
            exact ⟨_, rfl, q _ .refl⟩
          · have ek : (kept (ltr l).length (fun i => decide ((ltr l).getD i 0 < s)) (fun i => V.str (sg ((ltr l).getD i 0)))).length = ixc l s := by
              rw [kept_gen 0 (fun c => decide (c < s)) (fun c => V.str (sg c)) (ltr l), List.length_map]
              unfold ltr ixc
              rw [fr_lt (by omega)]
            refine ⟨_, _, rfl, .inl (SqL.of e2), gv (v := .int ((ixc l s : Nat) : Int)) (congrArg (fun k : Nat => V.int (k : Int)) ek) ?_⟩
            have x2 := Xg.up x2
            have et2 := x2.ins et textSeen
            refine ⟨_, rfl, _, rfl, t, _, dx, _, _, rfl, et2, T.k_Text, T.n_Text_signs, rfl, _, rfl, by rw [lS]; exact tfits (by omega), rfl, _, rfl, ite2 (fun h3 => ?_) (fun h3 => ?_)⟩
            · have h3 := of_decide_eq_true h3
              injection h3 with h3
              have h3 : ixc l s = (ltr l).length := by rw [lS] at h3; omega
              refine ⟨_, rfl, _, rfl, _, _, rfl, rfl, ?_⟩
              have e3 : (((spanW l a b).countP fun d => decide (d < s) : Nat) : Int) = (b : Int) - (a : Int) := by
                rw [List.countP_eq_length.mpr fun d hd => ?_, spanW_len hbl]
                · omega
                · have hd := span_mem hd
                  rw [decide_eq_true_eq]
                  exact (ixc_less hd).mp (by rw [h3]; exact ixc_lt hd (g.lt d hd))
              rw [e3] at q
              exact q H2 x2
            · have h3 : ixc l s < (ltr l).length := by
                have h4 : ixc l s ≤ (ltr l).length := fr_mono (by omega)
                have h5 : ixc l s ≠ (ltr l).length := fun y => h3 (decide_eq_true (by rw [lS, y]))
                omega
              have hvl : (wo l s).length = wdt l := wo_len
              have eR2 := x2.lst eR
              refine ⟨_, rfl, t, _, dx, _, _, rfl, et2, T.k_Text, T.n_Text_rows, rfl, _, rfl, _, rfl, t, _, dx, _, _, rfl, et2, T.k_Text, T.n_Text_rows, rfl, R, _, rfl, .inl (SqL.of eR2), ixc l s, wdt l, by rw [List.length_map, lrs], by omega, R, sb (wo l s), _, rfl, SqL.of eR2,
                for_it (w_zipS (l := (wo l s).map bc) (by rw [List.length_map, List.length_map, hvl, lrs])) (fun k σ H' => Xt (tK K) H H' ∧ ∃ (F : Nat) (t5 t7 : Option V), F = lessC k ((wo l s).take k) Es ∧ σ = [some (.ref t), some (.int ((pp (wos l) (wo l s) a k : Nat) : Int)), some (.int ((pp (wos l) (wo l s) b k : Nat) : Int)), some (.str (sg s)), some (.int ((ixc l s : Nat) : Int)), t5, some (.int (F : Int)), t7])
                ⟨x2, 0, none, none, ?_, rfl⟩ (fun _ _ _ _ h => SqL.of (h.1.lst eR)) ?_ ?_⟩
              · have z0 : lessC 0 ((wo l s).take 0) Es = 0 := List.countP_eq_zero.mpr fun y _ => by
                  rw [decide_eq_true_eq]
                  exact Nat.lt_irrefl _
                exact z0.symm
              · intro k x σ Ha Hb hk hp hy
                obtain ⟨xa, F, t5, t7, hF, rfl⟩ := hp
                obtain ⟨p, v, c, rfl, np, rfl, hc2, hv⟩ := hy
                rw [List.getElem?_map] at hc2 hv
                obtain ⟨r, hr1, rfl⟩ := Option.map_eq_some_iff.mp hv
                obtain ⟨b', hb', rfl⟩ := Option.map_eq_some_iff.mp hc2
                have hk : k < wdt l := by rw [← lrs]; exact (List.getElem?_eq_some_iff.mp hr1).1
                have hbk : bk k (wo l s) = b' := by
                  unfold bk
                  rw [List.getD_eq_getElem?_getD, hb']
                  rfl
                generalize hH : upd Ha p _ = Hc
                have xc : Xt (tK K) Ha Hc := newE hH np
                have ep := atE hH
                clear hH np
                have xa := xa.trans xc
                obtain ⟨m0, hrow⟩ := TextAt.still (fs := []) xa hT et eR k r hr1
                have lb := rowB_len (wos l) k
                obtain ⟨A, C, B⟩ := blk (x := wo l s) (w := wdt l) (W := wos l) wos_len k (by omega) (by omega)
                have pb := B.le (p := b) (by omega)
                have pa := B.le (p := a) (by omega)
                have sp := B.span false hab (by omega)
                rw [← hEs] at sp
                have Ew : ∀ y ∈ Es, k < y.length := fun y hy => by rw [wos_len y (span_mem (hEs ▸ hy))]; omega
                have st := lessC_step (b := b') (v := (wo l s).take k) (k := k) (by rw [List.length_take]; omega) Ew
                have tk : (wo l s).take (k + 1) = (wo l s).take k ++ [b'] := by rw [take_bk (by omega), hbk]
                rw [← tk] at st
                have sm : Es.filter (same k ((wo l s).take k)) = Es.filter (same k (wo l s)) := List.filter_congr fun y _ => same_take k _ y
                rw [sm] at st
                have ⟨_, dr, er⟩ := hrow
                refine ⟨p, _, rfl, .inl (.inl ep), rfl, _, _, rfl, _, _, rfl, rfl, ?_⟩
                have p1 : ∀ p, gnn (rowB (wos l) k) (pp (wos l) (wo l s) p k) b' = pp (wos l) (wo l s) p (k + 1) := fun p => by
                  rw [← hbk]
                  rfl
                obtain ⟨F2, hF2⟩ : ∃ F2, F2 = lessC (k + 1) ((wo l s).take (k + 1)) Es := ⟨_, rfl⟩
                rw [← hF, ← hF2] at st
                refine ⟨_, rfl, rfl, _, rfl, ?_⟩
                have d1 : decide (V.str (S [bc b']) = V.str (Str.ofString "1")) = (b' == true) := by
                  rw [sb_1]
                  exact sgn_dec _ _
                apply via (P := fun H' => Xt (tK K) Hc H')
                · intro kk
                  refine ite2 (fun h => ?_) (fun h => ?_)
                  · rw [d1, beq_iff_eq] at h
                    refine ⟨_, rfl, _, rfl, r, dr, _, rfl, er, rfl, _, rfl, r, _, m0, _, rfl, hrow, fun j' ej hjl H4 x4 hrow2 => ?_, fun h => absurd h (by omega)⟩
                    obtain rfl : pp (wos l) (wo l s) b k = j' := by omega
                    have ⟨_, dr2, er2⟩ := hrow2
                    refine ⟨_, _, rfl, rfl, _, rfl, r, dr2, _, rfl, er2, rfl, _, rfl, r, _, _, _, rfl, hrow2, fun j' ej hjl H5 x5 hrow3 => ?_, fun h => absurd h (by omega)⟩
                    obtain rfl : pp (wos l) (wo l s) a k = j' := by omega
                    refine ⟨_, _, rfl, rfl, gv (v := .int (F2 : Int)) (congrArg V.int ?_) (kk _ (x4.trans x5))⟩
                    rw [if_pos h] at st
                    omega
                  · rw [d1, beq_iff_eq] at h
                    rw [if_neg h, Nat.add_zero] at st
                    subst st
                    exact kk Hc .refl
                · intro H3 x3
                  have x3 := xa.trans x3
                  obtain ⟨m3, hrow3⟩ := TextAt.still (fs := []) x3 hT et eR k r hr1
                  have et3 := x3.ins et textSeen
                  refine ⟨_, rfl, t, dx, _, rfl, et3, rfl, _, rfl, _, rfl, _, rfl, _, _, rfl, int_bit b', by exact (by decide : 1 ≤ 640), t, r, rowB (wos l) k, m3, pp (wos l) (wo l s) a k, b', rfl, hrow3, by omega, fun H4 x4 => ?_⟩
                  have x4 := x3.trans x4
                  obtain ⟨m4, hrow4⟩ := TextAt.still (fs := []) x4 hT et eR k r hr1
                  have et4 := x4.ins et textSeen
                  refine ⟨_, rfl, t, dx, _, rfl, et4, rfl, _, rfl, _, rfl, _, rfl, _, _, rfl, int_bit b', by exact (by decide : 1 ≤ 640), t, r, rowB (wos l) k, m4, pp (wos l) (wo l s) b k, b', rfl, hrow4, by omega, fun H5 x5 => ?_⟩
                  rw [p1, p1]
                  exact ⟨x4.trans x5, F2, _, _, hF2, rfl⟩
              · intro σ Ha hp
                obtain ⟨xa, F, t5, t7, hF, rfl⟩ := hp
                rw [List.length_map, lrs, List.take_of_length_le (by omega), hEs, less_words g.lt hvl (bn_vb_lt (ix_small h3))] at hF
                subst hF
                exact ⟨_, rfl, q Ha xa⟩
        · exact absurd h1 hbad
        · rw [hbad c hc] at ok
          cases ok
      · rcases hq with ⟨a, b, s, rfl, rfl, hs, ok, hab, hbl, q⟩ | ⟨hbad, _⟩ | ⟨_, _, q⟩
        · rw [bad s hs] at ok
          cases ok
        · exact absurd h1 hbad
        · exact q
    · rcases hq with ⟨a, b, s, rfl, rfl, hs, ok, hab, hbl, q⟩ | ⟨_, q⟩ | ⟨h2, _, _⟩
      · exact absurd ⟨by omega, by omega, by omega⟩ h1
      · exact q
      · exact absurd h2 h1
end
end Tw

set_option maxHeartbeats 4000000
namespace Tw
open PySem PySem.Spec PyProof.Rows L2 LamX
section
variable {P : Program} {w : World} {K : PySem.W.Frag} {mg : Str → Option Value} {base : Heap}
def spTSize (K : PySem.W.Frag) : Sp := fun vs H Q E => ∃ (t : Addr) (l : List Nat), vs = [.ref t] ∧ TextAt K H t l ∧ Q (.int (l.length : Int)) H
theorem ok_Text_size (T : Tx K mg) : OkN P w K mg base ("Text", some "size") 1 ["self"] (spTSize K) := by
  refine T.F_Text_size.ok sc_Text_size (fun vs H Q E h => ?_) (fun cdv A outer s H vs Q E hr h => ?_)
  · obtain ⟨t, l, rfl, _⟩ := h
    rfl
  · obtain ⟨t, l, rfl, ⟨g, dx, R, rs, et, _⟩, q⟩ := h
    refine ⟨_, (pss_one (ps_ret (pe_fldK (K := K) rfl (pv 0) (by rfl)))), ?_⟩
    exact ⟨_, rfl, t, _, dx, _, _, rfl, et, T.k_Text, T.n_Text_length, rfl, q⟩
def spTLetters (K : PySem.W.Frag) : Sp := fun vs H Q E => ∃ (t : Addr) (l : List Nat), vs = [.ref t] ∧ TextAt K H t l ∧ Q (.str (S (ltr l))) H
theorem ok_Text_letters (T : Tx K mg) : OkN P w K mg base ("Text", some "letters") 1 ["self"] (spTLetters K) := by
  refine T.F_Text_letters.ok sc_Text_letters (fun vs H Q E h => ?_) (fun cdv A outer s H vs Q E hr h => ?_)
  · obtain ⟨t, l, rfl, _⟩ := h
    rfl
  · obtain ⟨t, l, rfl, ⟨g, dx, R, rs, et, _⟩, q⟩ := h
    refine ⟨_, (pss_one (ps_ret (pe_fldK (K := K) rfl (pv 0) (by rfl)))), ?_⟩
    exact ⟨_, rfl, t, _, dx, _, _, rfl, et, T.k_Text, T.n_Text_signs, rfl, q⟩
def spWordAt (K : PySem.W.Frag) : Sp := fun vs H Q E => ∃ (t : Addr) (l : List Nat) (p c : Nat), vs = [.ref t, .int p] ∧ TextAt K H t l ∧ l[p]? = some c ∧ ∀ H', Xt (tK K) H H' → Q (.str (sb (wo l c))) H'
theorem ok_Text_word_at (T : Tx K mg) : OkN P w K mg base ("Text", some "word_at") 10 ["self", "place"] (spWordAt K) := by
  refine T.F_Text_word_at.ok sc_Text_word_at (fun vs H Q E h => ?_) (fun cdv A outer s H vs Q E hr h => ?_)
  · obtain ⟨t, l, p, c, rfl, _⟩ := h
    rfl
  · obtain ⟨t, l, p, c, rfl, hT, hc, q⟩ := h
    have ⟨g, dx, R, rs, et, eR, lrs, hrs⟩ := hT
    have lwo : (wos l).length = l.length := List.length_map ..
    have hwd := wdt_le l
    have hp : p < l.length := (List.getElem?_eq_some_iff.mp hc).1
    have hw := wos_at hc
    have hvl : (wo l c).length = wdt l := wo_len
    refine ⟨_, (pss_cons (ps_set (i := 2) sc_Text_word_at.nd rfl (.inl rfl) pe_str)
    (pss_cons (ps_for (passes_of rfl) rfl (pi_listK (K := K) rfl (pe_fldK (K := K) rfl (pv 0) (by rfl))) (pg_name (i := 3) sc_Text_word_at.nd rfl (.inl rfl))
    (pss_cons (ps_set (i := 4) sc_Text_word_at.nd rfl (.inl rfl) (pe_meth (dvs := []) (pv 3) T.k_Row T.M_Row_bit (ok_Row_bit T) (hr.mono (by decide)) T.B_Row_bit .nil psP (pa_cons (pv 1) pa_nil)))
    (pss_cons (ps_set (i := 2) sc_Text_word_at.nd rfl (.inl rfl) (pe_op op_add_str (pv 2) (pe_callTy call_str_int (by rfl) T.z_str b_str (pa_cons (pv 4) pa_nil))))
    (pss_one (ps_set (i := 1) sc_Text_word_at.nd rfl (.inl rfl) (pe_meth (dvs := []) (pv 0) T.k_Text T.M_Text_gone (ok_Text_gone T) (hr.mono (by decide)) T.B_Text_gone .nil psP (pa_cons (pv 3) (pa_cons (pv 1) (pa_cons (pv 4) pa_nil)))))))))
    (pss_one (ps_ret (pv 2))))), ?_⟩
    refine ⟨_, rfl, t, _, dx, _, _, rfl, et, T.k_Text, T.n_Text_rows, rfl, R, rfl, ⟨_, SqL.of eR⟩, for_it w_list (fun k σ H' => Xt (tK K) H H' ∧ ∃ (t3 t4 : Option V), σ = [some (.ref t), some (.int ((pp (wos l) (wo l c) p k : Nat) : Int)), some (.str (sb ((wo l c).take k))), t3, t4])
      ⟨.refl, _, _, by rw [show (wo l c).take 0 = [] from rfl, ← sb_nil]; rfl⟩ (fun _ _ _ _ h => SqL.of (h.1.lst eR)) ?_ ?_⟩
    · intro k x σ Ha Hb hk hp2 hy
      obtain ⟨xa, t3, t4, rfl⟩ := hp2
      obtain ⟨rfl, hx⟩ := hy
      rw [List.getElem?_map] at hx
      obtain ⟨r, hr1, rfl⟩ := Option.map_eq_some_iff.mp hx
      have hk : k < wdt l := by rw [← lrs]; exact (List.getElem?_eq_some_iff.mp hr1).1
      obtain ⟨m0, hrow⟩ := TextAt.still (fs := []) xa hT et eR k r hr1
      obtain ⟨A, C, B⟩ := blk (x := wo l c) (w := wdt l) (W := wos l) wos_len k (by omega) (by omega)
      have pb := B.le (p := p) (by omega)
      have bitv := B.bit hw
      have lb := rowB_len (wos l) k
      obtain ⟨b, hb⟩ : ∃ b, b = bk k (wo l c) := ⟨_, rfl⟩
      rw [← hb] at bitv
      have plt := (List.getElem?_eq_some_iff.mp bitv).1
      have ⟨_, dr, er⟩ := hrow
      refine ⟨_, rfl, r, dr, _, rfl, er, rfl, _, rfl, r, _, m0, _, rfl, hrow, fun j b2 ej hj H2 x2 hrow2 => ?_, fun h => absurd h (by omega)⟩
      obtain rfl : pp (wos l) (wo l c) p k = j := by omega
      obtain rfl : b = b2 := Option.some.inj (bitv.symm.trans hj)
      have lt : ((wo l c).take k).length = k := by rw [List.length_take]; omega
      refine ⟨_, rfl, _, rfl, _, rfl, by cases b <;> decide, _, _, rfl, rfl, ?_, gv (v := .str (sb ((wo l c).take k ++ [b]))) (congrArg V.str (by rw [← sb_app, ← bit_txt])) ?_⟩
      · show (sb ((wo l c).take k)).length + (Str.ofString (toString ((b.toNat : Nat) : Int))).length ≤ _
        rw [bit_txt, sb_len, sb_len, lt]
        exact tfits (by simp; omega)
      have et2 := (xa.trans x2).ins et textSeen
      refine ⟨_, rfl, t, dx, _, rfl, et2, rfl, _, rfl, _, rfl, _, rfl, t, r, rowB (wos l) k, _, pp (wos l) (wo l c) p k, b, rfl, hrow2, by omega, fun H4 x4 => ?_⟩
      have p1 : gnn (rowB (wos l) k) (pp (wos l) (wo l c) p k) b = pp (wos l) (wo l c) p (k + 1) := by
        rw [hb]
        rfl
      have p2 : (wo l c).take k ++ [b] = (wo l c).take (k + 1) := by
        rw [hb]
        exact (take_bk (by omega)).symm
      rw [p1, p2]
      exact ⟨xa.trans (x2.trans x4), _, _, rfl⟩
    · intro σ Ha hp2
      obtain ⟨xa, t3, t4, rfl⟩ := hp2
      have e : (wo l c).take (rs.map V.ref).length = wo l c := by
        rw [List.length_map, lrs]
        exact List.take_of_length_le (by omega)
      have q := q Ha xa
      rw [← e] at q
      exact ⟨_, rfl, q⟩
def spSign (K : PySem.W.Frag) : Sp := fun vs H Q E => ∃ (t : Addr) (l : List Nat) (p : Int), vs = [.ref t, .int p] ∧ TextAt K H t l ∧ (∀ (j : Nat) c, p = j → l[j]? = some c → ∀ H', Xt (tK K) H H' → Q (.str (sg c)) H') ∧ ((p < 0 ∨ l.length ≤ p) → E (.ref (He.ga K "BadPlace")) none H)
theorem ok_Text_sign (T : Tx K mg) : OkN P w K mg base ("Text", some "sign") 11 ["self", "place"] (spSign K) := by
  refine T.F_Text_sign.ok sc_Text_sign (fun vs H Q E h => ?_) (fun cdv A outer s H vs Q E hr h => ?_)
  · obtain ⟨t, l, p, rfl, _⟩ := h
    rfl
  · obtain ⟨t, l, p, rfl, hT, q1, q2⟩ := h
    have ⟨g, dx, R, rs, et, eR, lrs, hrs⟩ := hT
    refine ⟨_, (pss_cons (ps_expr (pe_meth (dvs := []) (pv 0) T.k_Text T.M_Text_need (ok_Text_need T) (hr.mono (by decide)) T.B_Text_need .nil psP (pa_cons (pe_chain op_le op_lt pe_int (pv 1) (pe_fldK (K := K) rfl (pv 0) (by rfl))) pa_nil)))
    (pss_one (ps_ret (pe_ix ix_str (pe_fldK (K := K) rfl (pv 0) (by rfl)) (pe_callS (ok_out_of T) (hr.mono (by decide)) (by rfl) T.g_out_of T.F_out_of.kp T.B_out_of psE (pa_cons (pe_meth (dvs := []) (pv 0) T.k_Text T.M_Text_word_at (ok_Text_word_at T) (hr.mono (by decide)) T.B_Text_word_at .nil psP (pa_cons (pv 1) pa_nil)) pa_nil)) (fun _ _ => rfl))))), ?_⟩
    refine ⟨_, rfl, t, dx, _, rfl, et, rfl, _, rfl, _, _, rfl, rfl, _, rfl, ite2 (fun h0 => ?_) (fun h0 => ?_)⟩
    · simp only [decide_eq_true_eq] at h0
      refine ⟨_, rfl, t, _, dx, _, _, rfl, et, T.k_Text, T.n_Text_length, rfl, _, _, rfl, rfl, t, _, rfl, fun h1 => ?_, fun h1 => ?_⟩
      · have h1 := of_decide_eq_true h1
        obtain ⟨j, rfl⟩ : ∃ j : Nat, p = j := ⟨p.toNat, by omega⟩
        have hj : j < l.length := by omega
        have hc : l[j]? = some l[j] := List.getElem?_eq_getElem hj
        generalize l[j] = c at hc
        have hcm := List.mem_of_getElem? hc
        have hwd := wdt_le l
        refine ⟨_, rfl, t, _, dx, _, _, rfl, et, T.k_Text, T.n_Text_signs, rfl, _, rfl, t, dx, _, rfl, et, rfl, _, rfl, t, l, j, c, rfl, hT, hc, fun H' x' => ?_⟩
        refine ⟨wo l c, rfl, by rw [wo_len]; omega, S (ltr l), _, c, rfl, rfl, by rw [S_len]; exact tfits (by have := ltr_len l; omega), ?_, q1 j c rfl hc H' x'⟩
        rw [wo_vb hcm (g.lt c hcm)]
        exact atI_nat (by show (ltr l)[_]? = _; exact ltr_get hcm (g.lt c hcm))
      · have h1 := of_decide_eq_false h1
        exact q2 (.inr (by omega))
    · simp only [decide_eq_true_eq] at h0
      exact ⟨t, false, rfl, fun z => (nomatch z), fun _ => q2 (.inl (by omega))⟩
def spTxt (K : PySem.W.Frag) : Sp := fun vs H Q E => ∃ (t : Addr) (l : List Nat), vs = [.ref t] ∧ TextAt K H t l ∧ ∀ H', Xt (tK K) H H' → Q (.str (S l)) H'
theorem ok_Text_text (T : Tx K mg) : OkN P w K mg base ("Text", some "text") 12 ["self"] (spTxt K) := by
  refine T.F_Text_text.ok sc_Text_text (fun vs H Q E h => ?_) (fun cdv A outer s H vs Q E hr h => ?_)
  · obtain ⟨t, l, rfl, _⟩ := h
    rfl
  · obtain ⟨t, l, rfl, hT, q⟩ := h
    have ⟨g, dx, R, rs, et, eR, lrs, hrs⟩ := hT
    have hl5 := g.1
    refine ⟨_, (pss_one (ps_ret (pe_joinK (K := K) rfl pe_str (pe_lc (own := [("place", 1)]) rfl sc_Text_text.nd (pi_range1 (by rfl) T.z_range (pa_cons (pe_fldK (K := K) rfl (pv 0) (by rfl)) pa_nil)) (blkOk_by (N := N_Text_text) (sc := defScope s_Text_text) (by decide +kernel)) (fun _ _ _ _ _ => (pg_name (i := 1) sc_Text_text.nd rfl (.inl rfl))) (fun _ _ _ _ _ => pts_nil) (fun _ _ _ _ _ => (pe_meth (dvs := []) (pv 0) T.k_Text T.M_Text_sign (ok_Text_sign T) (hr.mono (by decide)) T.B_Text_sign .nil psP0 (pa_cons (pv 1) pa_nil)))) (by rfl) (by rfl) (by rfl)))), ?_⟩
    refine ⟨⟨_, rfl⟩, _, rfl, t, _, dx, _, _, rfl, et, T.k_Text, T.n_Text_length, rfl, _, rfl, by omega, by omega, fun D hD => lcP (T := tK K) w_range hD (by omega) (fun _ _ => trivial) (fun i => .str (sg (l.getD i 0))) ?_ fun H2 x2 e2 => ?_⟩
    · intro i x H' hi hy x1 Q q
      obtain rfl := hy
      have hi : i < l.length := by omega
      have hc : l[i]? = some l[i] := List.getElem?_eq_getElem hi
      have e : l.getD i 0 = l[i] := by rw [List.getD_eq_getElem?_getD, hc]; rfl
      rw [e] at q
      have hT1 := hT.xt x1
      have ⟨_, d1, R1, r1, et1, _⟩ := hT1
      refine ⟨_, rfl, t, d1, _, rfl, et1, rfl, _, rfl, t, l, _, rfl, hT1, fun j c ej hj H4 x4 => ?_, fun h => absurd h (by omega)⟩
      obtain rfl : i = j := by omega
      rw [Option.some.inj (hc.symm.trans hj)] at q
      exact q H4 x4
    · have ev : ((List.range ((l.length : Int).toNat)).map fun i => V.str (sg (l.getD i 0))) = (l.map sg).map V.str := by
        have := kept_gen 0 (fun _ => true) (fun c => V.str (sg c)) l
        rw [kept_all] at this
        rw [show ((l.length : Int).toNat) = l.length by omega, this, List.filter_eq_self.mpr (fun _ _ => rfl), List.map_map]
        rfl
      have e2 : H2 D = some (.lst ((l.map sg).map V.str)) := by
        rw [← ev]
        exact e2
      refine ⟨S [], D, l.map sg, rfl, rfl, .inl (SqL.of e2), ?_, ?_⟩
      · have h1 : (l.map sg).map Str.length = l.map fun _ => 1 := by
          rw [List.map_map]
          exact List.map_congr_left fun c _ => S_len [c]
        rw [h1, List.length_map, List.map_const', List.sum_replicate_nat, Nat.mul_one, S_len]
        exact Nat.le_trans (show _ ≤ 512 by simp; omega) (by decide)
      · have ej : Txt.join (S []) (l.map sg) = S l := by
          rw [show l.map sg = (l.map fun c => [c]).map S by rw [List.map_map]; rfl, join_S, flat1]
        rw [ej]
        exact q _ x2
def spSpanOf (K : PySem.W.Frag) : Sp := fun vs H Q E => ∃ (t : Addr) (l : List Nat) (x : Wd) (f e : Nat), vs = [.ref t, .str (sb x), .int f, .int e] ∧ TextAt K H t l ∧ x.length = wdt l ∧ f ≤ l.length ∧ e ≤ l.length ∧
  ∀ H' p, Xt (tK K) H H' → H' p = some (.tup [.int ((pp (wos l) x f (wdt l) : Nat) : Int), .int ((pp (wos l) x e (wdt l) : Nat) : Int)]) → Q (.ref p) H'
theorem ok_Text_span_of (T : Tx K mg) : OkN P w K mg base ("Text", some "span_of") 10 ["self", "word", "first", "end"] (spSpanOf K) := by
  refine T.F_Text_span_of.ok sc_Text_span_of (fun vs H Q E h => ?_) (fun cdv A outer s H vs Q E hr h => ?_)
  · obtain ⟨t, l, x, f, e, rfl, _⟩ := h
    rfl
  · obtain ⟨t, l, x, f, e, rfl, hT, hvl, hf, he, q⟩ := h
    have ⟨g, dx, R, rs, et, eR, lrs, hrs⟩ := hT
    have lwo : (wos l).length = l.length := List.length_map ..
    have hwd := wdt_le l
    refine ⟨_, (pss_cons (ps_for (passes_of rfl) rfl (pi_zipSK (K := K) rfl (by rfl) T.z_zip (pa_cons (pe_fldK (K := K) rfl (pv 0) (by rfl)) (pa_cons (pv 1) pa_nil)) (by rfl) (by rfl)) (pg_tupK (K := K) (n := 2) rfl rfl (pgs_cons (pg_name (i := 4) sc_Text_span_of.nd rfl (.inl rfl)) (pgs_cons (pg_name (i := 5) sc_Text_span_of.nd rfl (.inl rfl)) pgs_nil)) (by rfl) (by rfl))
    (pss_cons (ps_set (i := 2) sc_Text_span_of.nd rfl (.inl rfl) (pe_meth (dvs := []) (pv 0) T.k_Text T.M_Text_gone (ok_Text_gone T) (hr.mono (by decide)) T.B_Text_gone .nil psP (pa_cons (pv 4) (pa_cons (pv 2) (pa_cons (pe_callTy call_int_str (by rfl) T.z_int b_int (pa_cons (pv 5) pa_nil)) pa_nil)))))
    (pss_one (ps_set (i := 3) sc_Text_span_of.nd rfl (.inl rfl) (pe_meth (dvs := []) (pv 0) T.k_Text T.M_Text_gone (ok_Text_gone T) (hr.mono (by decide)) T.B_Text_gone .nil psP (pa_cons (pv 4) (pa_cons (pv 3) (pa_cons (pe_callTy call_int_str (by rfl) T.z_int b_int (pa_cons (pv 5) pa_nil)) pa_nil))))))))
    (pss_one (ps_ret (pe_tup (pa_cons (pv 2) (pa_cons (pv 3) pa_nil)))))), ?_⟩
    refine ⟨_, rfl, t, _, dx, _, _, rfl, et, T.k_Text, T.n_Text_rows, rfl, _, rfl, R, sb x, _, rfl, SqL.of eR,
      for_it (w_zipS (l := x.map bc) (by rw [List.length_map, List.length_map, hvl, lrs])) (fun k σ H' => Xt (tK K) H H' ∧ ∃ (t4 t5 : Option V), σ = [some (.ref t), some (.str (sb x)), some (.int ((pp (wos l) x f k : Nat) : Int)), some (.int ((pp (wos l) x e k : Nat) : Int)), t4, t5])
      ⟨.refl, _, _, rfl⟩ (fun _ _ _ _ h => SqL.of (h.1.lst eR)) ?_ ?_⟩
    · intro k y σ Ha Hb hk hp hy
      obtain ⟨xa, t4, t5, rfl⟩ := hp
      obtain ⟨p, v, c, rfl, np, rfl, hc2, hv⟩ := hy
      rw [List.getElem?_map] at hc2 hv
      obtain ⟨r, hr1, rfl⟩ := Option.map_eq_some_iff.mp hv
      obtain ⟨b', hb', rfl⟩ := Option.map_eq_some_iff.mp hc2
      have hk : k < wdt l := by rw [← lrs]; exact (List.getElem?_eq_some_iff.mp hr1).1
      have hbk : bk k x = b' := by
        unfold bk
        rw [List.getD_eq_getElem?_getD, hb']
        rfl
      generalize hH : upd Ha p _ = Hc
      have xc : Xt (tK K) Ha Hc := newE hH np
      have ep := atE hH
      clear hH np
      have xa := xa.trans xc
      obtain ⟨m0, hrow⟩ := TextAt.still (fs := []) xa hT et eR k r hr1
      have lb := rowB_len (wos l) k
      obtain ⟨A, C, B⟩ := blk (x := x) (w := wdt l) (W := wos l) wos_len k (by omega) (by omega)
      have pf := B.le (p := f) (by omega)
      have pe := B.le (p := e) (by omega)
      have p1 : ∀ p, gnn (rowB (wos l) k) (pp (wos l) x p k) b' = pp (wos l) x p (k + 1) := fun p => by
        rw [← hbk]
        rfl
      have eta := xa.ins et textSeen
      refine ⟨p, _, rfl, .inl (.inl ep), rfl, _, _, rfl, _, _, rfl, rfl, ?_⟩
      refine ⟨_, rfl, t, dx, _, rfl, eta, rfl, _, rfl, _, rfl, _, rfl, _, _, rfl, int_bit b', by exact (by decide : 1 ≤ 640), t, r, rowB (wos l) k, m0, pp (wos l) x f k, b', rfl, hrow, by omega, fun H4 x4 => ?_⟩
      have x4 := xa.trans x4
      obtain ⟨m4, hrow4⟩ := TextAt.still (fs := []) x4 hT et eR k r hr1
      have et4 := x4.ins et textSeen
      refine ⟨_, rfl, t, dx, _, rfl, et4, rfl, _, rfl, _, rfl, _, rfl, _, _, rfl, int_bit b', by exact (by decide : 1 ≤ 640), t, r, rowB (wos l) k, m4, pp (wos l) x e k, b', rfl, hrow4, by omega, fun H5 x5 => ?_⟩
      rw [p1, p1]
      exact ⟨x4.trans x5, _, _, rfl⟩
    · intro σ Ha hp
      obtain ⟨xa, t4, t5, rfl⟩ := hp
      refine ⟨_, rfl, _, rfl, by exact (by decide : 2 ≤ sizeLine), fun p np => ?_⟩
      generalize hH : upd Ha p _ = Hc
      have xc : Xt (tK K) Ha Hc := newE hH np
      have ep := atE hH
      rw [List.length_map, lrs] at ep
      exact q Hc p (xa.trans xc) ep
def spWordOf (K : PySem.W.Frag) : Sp := fun vs H Q E => ∃ (t : Addr) (l : List Nat) (c : Nat), vs = [.ref t, .str (sg c)] ∧ TextAt K H t l ∧ c ∈ l ∧ Q (.str (sb (wo l c))) H
theorem ok_Text_word_of (T : Tx K mg) : OkN P w K mg base ("Text", some "word_of") 2 ["self", "sign"] (spWordOf K) := by
  refine T.F_Text_word_of.ok sc_Text_word_of (fun vs H Q E h => ?_) (fun cdv A outer s H vs Q E hr h => ?_)
  · obtain ⟨t, l, c, rfl, _⟩ := h
    rfl
  · obtain ⟨t, l, c, rfl, hT, hc, q⟩ := h
    have ⟨g, dx, R, rs, et, eR, lrs, hrs⟩ := hT
    have hwd := wdt_le l
    refine ⟨_, (pss_one (ps_ret (pe_callS (ok_in_bits T) (hr.mono (by decide)) (by rfl) T.g_in_bits T.F_in_bits.kp T.B_in_bits psE (pa_cons (pe_m1 F.slot_str_index F.type_str_index mt_sindex (pe_fldK (K := K) rfl (pv 0) (by rfl)) (pv 1)) (pa_cons (pe_callB (call_len_seqK (K := K) rfl) (by rfl) T.z_len b_len (pa_cons (pe_fldK (K := K) rfl (pv 0) (by rfl)) pa_nil)) pa_nil))))), ?_⟩
    exact ⟨_, rfl, t, _, dx, _, _, rfl, et, T.k_Text, T.n_Text_signs, rfl, ⟨_, rfl⟩, _, rfl, S (ltr l), S [c], ixc l c, [], rfl, rfl, ix_first hc (g.lt c hc), _, rfl, t, _, dx, _, _, rfl, et, T.k_Text, T.n_Text_rows, rfl, R, _, rfl, .inl (SqL.of eR), ixc l c, wdt l, by rw [List.length_map, lrs], by omega, q⟩
def spTCount (K : PySem.W.Frag) : Sp := fun vs H Q E => ∃ (t : Addr) (l : List Nat) (z : Str) (p : Int), vs = [.ref t, .str z, .int p] ∧ TextAt K H t l ∧ z.length ≤ 100000 ∧
  ((∃ s j : Nat, z = sg s ∧ okSg s = true ∧ p = j ∧ j ≤ l.length ∧ ∀ H', Xt (tK K) H H' → Q (.int (((l.take j).count s : Nat) : Int)) H') ∨
   (¬ (0 ≤ p ∧ p ≤ l.length) ∧ E (.ref (He.ga K "BadPlace")) none H) ∨ ((0 ≤ p ∧ p ≤ l.length) ∧ (∀ c, z = sg c → okSg c = false) ∧ E (.ref (He.ga K "BadText")) none H))
theorem ok_Text_count (T : Tx K mg) : OkN P w K mg base ("Text", some "count") 12 ["self", "sign", "place"] (spTCount K) := by
  refine T.F_Text_count.ok sc_Text_count (fun vs H Q E h => ?_) (fun cdv A outer s H vs Q E hr h => ?_)
  · obtain ⟨t, l, z, p, rfl, _⟩ := h
    rfl
  · obtain ⟨t, l, z, p, rfl, hT, hz, hq⟩ := h
    have ⟨g, dx, R, rs, et, eR, lrs, hrs⟩ := hT
    have lwo : (wos l).length = l.length := List.length_map ..
    have ll := ltr_len l
    refine ⟨_, (pss_cons (ps_expr (pe_meth (dvs := []) (pv 0) T.k_Text T.M_Text_need (ok_Text_need T) (hr.mono (by decide)) T.B_Text_need .nil psP (pa_cons (pe_chain op_le op_le pe_int (pv 2) (pe_fldK (K := K) rfl (pv 0) (by rfl))) pa_nil)))
    (pss_cons (ps_expr (pe_meth (dvs := []) (pv 0) T.k_Text T.M_Text_need_sign (ok_Text_need_sign T) (hr.mono (by decide)) T.B_Text_need_sign .nil psP (pa_cons (pv 1) pa_nil)))
    (pss_cons (ps_if (pt_cmpR op_notIn_sign (pv 1) (pe_fldK (K := K) rfl (pv 0) (by rfl)) (by rfl))
    (pss_one (ps_ret pe_int)) pss_nil)
    (pss_cons (ps_asg (pe_meth (dvs := []) (pv 0) T.k_Text T.M_Text_span_of (ok_Text_span_of T) (hr.mono (by decide)) T.B_Text_span_of .nil psP (pa_cons (pe_meth (dvs := []) (pv 0) T.k_Text T.M_Text_word_of (ok_Text_word_of T) (hr.mono (by decide)) T.B_Text_word_of .nil psP (pa_cons (pv 1) pa_nil)) (pa_cons pe_int (pa_cons (pv 2) pa_nil)))) (pg_tupK (K := K) (n := 2) rfl rfl (pgs_cons (pg_name (i := 3) sc_Text_count.nd rfl (.inl rfl)) (pgs_cons (pg_name (i := 4) sc_Text_count.nd rfl (.inl rfl)) pgs_nil)) (by rfl) (by rfl)))
    (pss_one (ps_ret (pe_op op_sub (pv 4) (pv 3)))))))), ?_⟩
    refine ⟨_, rfl, t, dx, _, rfl, et, rfl, _, rfl, _, _, rfl, rfl, _, rfl, ite2 (fun h0 => ?_) (fun h0 => ?_)⟩
    · simp only [decide_eq_true_eq] at h0
      refine ⟨_, rfl, t, _, dx, _, _, rfl, et, T.k_Text, T.n_Text_length, rfl, _, _, rfl, rfl, t, _, rfl, fun h1 => ?_, fun h1 => ?_⟩
      · have h1 := of_decide_eq_true h1
        refine ⟨_, rfl, t, dx, _, rfl, et, rfl, _, rfl, t, z, rfl, hz, fun c hc ok => ?_, fun bad => ?_⟩
        · rcases hq with ⟨s, j, rfl, hs, rfl, hj, q⟩ | ⟨hbad, _⟩ | ⟨_, hbad, _⟩
          · obtain rfl := sg_inj hc
            refine ⟨_, rfl, _, rfl, t, _, dx, _, _, rfl, et, T.k_Text, T.n_Text_signs, rfl, s, S (ltr l), rfl, rfl, _, rfl, ite2 (fun h2 => ?_) (fun h2 => ?_)⟩
            · have h2 : s ∉ l := fun hm => by
                have h3 : s ∈ (S (ltr l)).cps.toList := ltr_mem.mpr ⟨g.lt s hm, hm⟩
                rw [decide_eq_true h3] at h2
                cases h2
              have e0 : (l.take j).count s = 0 := List.count_eq_zero.mpr fun hm => h2 (List.mem_of_mem_take hm)
              have q := q H .refl
              rw [e0] at q
              exact q
            · have hm : s ∈ l := by
                have h3 : s ∈ (S (ltr l)).cps.toList := by
                  by_cases h4 : s ∈ (S (ltr l)).cps.toList
                  · exact h4
                  · exact absurd (by rw [decide_eq_false h4]; rfl) h2
                exact (ltr_mem.mp h3).2
              refine ⟨_, rfl, t, dx, _, rfl, et, rfl, _, rfl, t, dx, _, rfl, et, rfl, _, rfl, t, l, s, rfl, hT, hm, _, rfl, t, l, wo l s, 0, j, rfl, hT, wo_len, Nat.zero_le _, hj, fun H2 pt x2 ept => ?_⟩
              obtain ⟨A, C, B⟩ := blk (x := wo l s) (w := wdt l) (W := wos l) wos_len (wdt l) (by rw [wo_len]; exact Nat.le_refl _) (Nat.le_refl _)
              have df := B.diff (p := j) (by omega)
              rw [words_count g.lt hm] at df
              refine ⟨pt, _, rfl, .inl (.inl ept), rfl, _, _, rfl, _, _, rfl, rfl, _, rfl, _, rfl, _, _, rfl, rfl, ?_⟩
              have q := q H2 x2
              rw [show (((l.take j).count s : Nat) : Int) = ((pp (wos l) (wo l s) j (wdt l) : Nat) : Int) - ((pp (wos l) (wo l s) 0 (wdt l) : Nat) : Int) by omega] at q
              exact q
          · exact absurd ⟨h0, h1⟩ hbad
          · rw [hbad c hc] at ok
            cases ok
        · rcases hq with ⟨s, j, hs, ok, rfl, hj, q⟩ | ⟨hbad, _⟩ | ⟨_, _, q⟩
          · rw [bad s hs] at ok
            cases ok
          · exact absurd ⟨h0, h1⟩ hbad
          · exact q
      · have h1 := of_decide_eq_false h1
        rcases hq with ⟨s, j, hs, ok, rfl, hj, q⟩ | ⟨_, q⟩ | ⟨h2, _, _⟩
        · omega
        · exact q
        · omega
    · simp only [decide_eq_true_eq] at h0
      refine ⟨t, false, rfl, fun z => (nomatch z), fun _ => ?_⟩
      rcases hq with ⟨s, j, hs, ok, rfl, hj, q⟩ | ⟨_, q⟩ | ⟨h2, _, _⟩
      · omega
      · exact q
      · omega
def spBack (K : PySem.W.Frag) : Sp := fun vs H Q E => ∃ (t r : Addr) (l : List Bool) (n : Int) (p : Nat) (b : Bool), vs = [.ref t, .ref r, .int ((gnn l p b : Nat) : Int), .int b.toNat] ∧ RowAt K H r l n ∧ l[p]? = some b ∧ ∀ H', Xt (tK K) H H' → Q (.int (p : Int)) H'
theorem ok_Text_back (T : Tx K mg) : OkN P w K mg base ("Text", some "back") 9 ["self", "row", "place", "bit"] (spBack K) := by
  refine T.F_Text_back.ok sc_Text_back (fun vs H Q E h => ?_) (fun cdv A outer s H vs Q E hr h => ?_)
  · obtain ⟨t, r, l, n, p, b, rfl, _⟩ := h
    rfl
  · obtain ⟨t, r, l, n, p, b, rfl, hrow, hp, q⟩ := h
    refine ⟨_, (pss_cons (ps_if (pt_cmpR op_eq (pv 3) pe_int (nomark _))
    (pss_one (ps_ret (pe_meth (dvs := []) (pv 1) T.k_Row T.M_Row_one_at (ok_Row_one_at T) (hr.mono (by decide)) T.B_Row_one_at .nil psP (pa_cons (pe_op op_sub (pv 2) (pe_meth (dvs := []) (pv 1) T.k_Row T.M_Row_noughts (ok_Row_noughts T) (hr.mono (by decide)) T.B_Row_noughts .nil psP (pa_cons (pe_meth0 (dvs := []) (pv 1) T.k_Row T.M_Row_size (ok_Row_size T) (hr.mono (by decide)) T.B_Row_size .nil psP) pa_nil))) pa_nil)))) pss_nil)
    (pss_one (ps_ret (pe_meth (dvs := []) (pv 1) T.k_Row T.M_Row_nought_at (ok_Row_nought_at T) (hr.mono (by decide)) T.B_Row_nought_at .nil psP (pa_cons (pv 2) pa_nil))))), ?_⟩
    have ⟨hl, dx, er⟩ := hrow
    have hg := pos_get hp
    cases b with
    | true =>
      refine ⟨_, rfl, rfl, _, rfl, ite2 (fun _ => ?_) (fun h => absurd (decide_eq_true rfl) h)⟩
      refine ⟨_, rfl, r, dx, _, rfl, er, rfl, _, rfl, _, rfl, r, dx, _, rfl, er, rfl, _, rfl, r, dx, _, rfl, er, rfl, r, l, n, rfl, hrow, r, l, n, (l.length : Int), rfl, hrow, fun j hj hjl H2 x2 hrow2 => ?_, fun h => absurd h (by omega)⟩
      obtain rfl : l.length = j := by omega
      refine ⟨_, _, rfl, rfl, r, l, _, _, rfl, hrow2, fun j m hj H3 x3 _ _ _ => ?_, fun h => absurd h ?_⟩
      · obtain rfl : cn true l p = j := by
          unfold gnn at hj
          simp only [if_true] at hj
          omega
        rw [hg]
        exact q H3 (x2.trans x3)
      · unfold gnn
        simp only [if_true]
        omega
    | false =>
      refine ⟨_, rfl, rfl, _, rfl, ite2 (fun h => absurd h (by decide)) (fun _ => ?_)⟩
      refine ⟨_, rfl, r, dx, _, rfl, er, rfl, _, rfl, r, l, n, _, rfl, hrow, fun j m hj H3 x3 _ _ _ => ?_, fun h => absurd h (by omega)⟩
      obtain rfl : cn false l p = j := by
        unfold gnn at hj
        simp only [Bool.false_eq_true, if_false] at hj
        omega
      rw [hg]
      exact q H3 x3
def spPlace (K : PySem.W.Frag) : Sp := fun vs H Q E => ∃ (t : Addr) (l : List Nat) (z : Str) (i : Int), vs = [.ref t, .str z, .int i] ∧ TextAt K H t l ∧ z.length ≤ 100000 ∧
  ((∃ s n : Nat, z = sg s ∧ okSg s = true ∧ i = n ∧ ∀ H', Xt (tK K) H H' → Q (on (occ l s)[n]?) H') ∨
   (i < 0 ∧ E (.ref (He.ga K "BadPlace")) none H) ∨ (0 ≤ i ∧ (∀ c, z = sg c → okSg c = false) ∧ E (.ref (He.ga K "BadText")) none H))
theorem ok_Text_place (T : Tx K mg) : OkN P w K mg base ("Text", some "place") 13 ["self", "sign", "number"] (spPlace K) := by
  refine T.F_Text_place.ok sc_Text_place (fun vs H Q E h => ?_) (fun cdv A outer s H vs Q E hr h => ?_)
  · obtain ⟨t, l, z, i, rfl, _⟩ := h
    rfl
  · obtain ⟨t, l, z, i, rfl, hT, hz, hq⟩ := h
    have ⟨g, dx, R, rs, et, eR, lrs, hrs⟩ := hT
    have lwo : (wos l).length = l.length := List.length_map ..
    have hwd := wdt_le l
    refine ⟨_, (pss_cons (ps_expr (pe_meth (dvs := []) (pv 0) T.k_Text T.M_Text_need (ok_Text_need T) (hr.mono (by decide)) T.B_Text_need .nil psP (pa_cons (pe_cmpR op_ge (pv 2) pe_int (nomark _)) pa_nil)))
    (pss_cons (ps_expr (pe_meth (dvs := []) (pv 0) T.k_Text T.M_Text_need_sign (ok_Text_need_sign T) (hr.mono (by decide)) T.B_Text_need_sign .nil psP (pa_cons (pv 1) pa_nil)))
    (pss_cons (ps_if (PW.pt (pw_or (pt_cmpR op_notIn_sign (pv 1) (pe_fldK (K := K) rfl (pv 0) (by rfl)) (by rfl)) (pw_or1 (pt_cmpR op_ge (pv 2) (pe_meth (dvs := []) (pv 0) T.k_Text T.M_Text_count (ok_Text_count T) (hr.mono (by decide)) T.B_Text_count .nil psP (pa_cons (pv 1) (pa_cons (pe_fldK (K := K) rfl (pv 0) (by rfl)) pa_nil))) (nomark _)))))
    (pss_one (ps_ret pe_non)) pss_nil)
    (pss_cons (ps_set (i := 3) sc_Text_place.nd rfl (.inl rfl) (pe_meth (dvs := []) (pv 0) T.k_Text T.M_Text_word_of (ok_Text_word_of T) (hr.mono (by decide)) T.B_Text_word_of .nil psP (pa_cons (pv 1) pa_nil)))
    (pss_cons (ps_set (i := 4) sc_Text_place.nd rfl (.inl rfl) (pe_op op_add (pe_ix (ix_tupK (K := K) rfl) (pe_meth (dvs := []) (pv 0) T.k_Text T.M_Text_span_of (ok_Text_span_of T) (hr.mono (by decide)) T.B_Text_span_of .nil psP (pa_cons (pv 3) (pa_cons pe_int (pa_cons pe_int pa_nil)))) pe_int (fun _ _ => rfl)) (pv 2)))
    (pss_cons (ps_for (passes_of rfl) rfl (pi_zipSK (K := K) rfl (by rfl) T.z_zip (pa_cons (pe_revLK (K := K) rfl (pe_fldK (K := K) rfl (pv 0) (by rfl))) (pa_cons (pe_revS (pv 3)) pa_nil)) (by rfl) (by rfl)) (pg_tupK (K := K) (n := 2) rfl rfl (pgs_cons (pg_name (i := 5) sc_Text_place.nd rfl (.inl rfl)) (pgs_cons (pg_name (i := 6) sc_Text_place.nd rfl (.inl rfl)) pgs_nil)) (by rfl) (by rfl))
    (pss_one (ps_set (i := 4) sc_Text_place.nd rfl (.inl rfl) (pe_meth (dvs := []) (pv 0) T.k_Text T.M_Text_back (ok_Text_back T) (hr.mono (by decide)) T.B_Text_back .nil psP (pa_cons (pv 5) (pa_cons (pv 4) (pa_cons (pe_callTy call_int_str (by rfl) T.z_int b_int (pa_cons (pv 6) pa_nil)) pa_nil)))))))
    (pss_one (ps_ret (pv 4))))))))), ?_⟩
    refine ⟨_, rfl, t, dx, _, rfl, et, rfl, _, rfl, _, _, rfl, rfl, t, _, rfl, fun h0 => ?_, fun h0 => ?_⟩
    · have h0 := of_decide_eq_true h0
      refine ⟨_, rfl, t, dx, _, rfl, et, rfl, _, rfl, t, z, rfl, hz, fun c hc ok => ?_, fun bad => ?_⟩
      · rcases hq with ⟨s, n, rfl, hs, rfl, q⟩ | ⟨hbad, _⟩ | ⟨_, hbad, _⟩
        · obtain rfl := sg_inj hc
          refine ⟨_, rfl, _, rfl, t, _, dx, _, _, rfl, et, T.k_Text, T.n_Text_signs, rfl, s, S (ltr l), rfl, rfl, _, rfl, ite2 (fun h2 => ?_) (fun h2 => ?_)⟩
          · have h2 : s ∉ l := fun hm => by
              have h3 : s ∈ (S (ltr l)).cps.toList := ltr_mem.mpr ⟨g.lt s hm, hm⟩
              rw [decide_eq_true h3] at h2
              cases h2
            have e0 : (occ l s)[n]? = none := List.getElem?_eq_none (by rw [occ_len, List.count_eq_zero.mpr h2]; exact Nat.zero_le _)
            rw [e0] at q
            exact iteT (q H .refl)
          · have hm : s ∈ l := by
              have h3 : s ∈ (S (ltr l)).cps.toList := by
                by_cases h4 : s ∈ (S (ltr l)).cps.toList
                · exact h4
                · exact absurd (by rw [decide_eq_false h4]; rfl) h2
              exact (ltr_mem.mp h3).2
            refine ⟨_, rfl, _, rfl, t, dx, _, rfl, et, rfl, _, rfl, _, rfl, t, _, dx, _, _, rfl, et, T.k_Text, T.n_Text_length, rfl, t, l, sg s, _, rfl, hT, by show (S [s]).length ≤ _; rw [S_len]; exact (by decide : 1 ≤ 100000), .inl ⟨s, l.length, rfl, ok, rfl, Nat.le_refl _, fun H2 x2 => ?_⟩⟩
            rw [List.take_length, ← occ_len]
            refine ⟨_, _, rfl, rfl, _, rfl, ite2 (fun h3 => ?_) (fun h3 => ?_)⟩
            · have h3 := of_decide_eq_true h3
              rw [List.getElem?_eq_none (by omega)] at q
              exact q H2 x2
            · have h3 : n < (occ l s).length := by
                by_cases h4 : (n : Int) ≥ ((occ l s).length : Nat)
                · exact absurd (decide_eq_true h4) h3
                · omega
              obtain ⟨p, hp⟩ : ∃ p, (occ l s)[n]? = some p := ⟨_, List.getElem?_eq_getElem h3⟩
              rw [hp] at q
              obtain ⟨hs1, hs2⟩ := occ_at hp
              have hp1 : p < l.length := (List.getElem?_eq_some_iff.mp hs1).1
              have hw := wos_at hs1
              have hvl : (wo l s).length = wdt l := wo_len
              have hT2 := hT.xt x2
              have et2 := x2.ins et textSeen
              refine ⟨_, rfl, t, dx, _, rfl, et2, rfl, _, rfl, t, l, s, rfl, hT2, hm, ?_⟩
              refine ⟨_, rfl, t, dx, _, rfl, et2, rfl, _, rfl, t, l, wo l s, 0, 0, rfl, hT2, wo_len, Nat.zero_le _, Nat.zero_le _, fun H3 pt x3 ept => ?_⟩
              have x3 := x2.trans x3
              obtain ⟨A, C, B⟩ := blk (x := wo l s) (w := wdt l) (W := wos l) wos_len (wdt l) (by omega) (Nat.le_refl _)
              have df := B.diff (p := p) (by omega)
              rw [words_count g.lt hm, hs2] at df
              refine ⟨pt, _, 0, _, rfl, rfl, .inl (.inl ept), atI_nat (j := 0) rfl, _, rfl, _, _, rfl, rfl, gv (v := .int ((pp (wos l) (wo l s) p (wdt l) : Nat) : Int)) (congrArg V.int (by omega)) ?_⟩
              have et3 := x3.ins et textSeen
              have eR3 := x3.lst eR
              refine ⟨_, rfl, t, _, dx, _, _, rfl, et3, T.k_Text, T.n_Text_rows, rfl, R, _, rfl, SqL.of eR3, fun p5 n5 => ?_⟩
              generalize hH : upd H3 p5 _ = H5
              have x5 := x3.trans (newE (lo := True) (T := tK K) hH n5)
              have e5 : H5 p5 = some (.lst (rs.reverse.map V.ref)) := by rw [atE hH, List.map_reverse]
              clear hH n5
              have erv : S (sb (wo l s)).cps.toList.reverse = sb (wo l s).reverse := by
                show S ((wo l s).map bc).reverse = S ((wo l s).reverse.map bc)
                rw [List.map_reverse]
              refine ⟨_, rfl, sb (wo l s), rfl, by rw [sb_len, hvl]; exact tfits (by omega), ?_⟩
              rw [erv]
              refine ⟨p5, sb (wo l s).reverse, _, rfl, SqL.of e5,
                for_it (w_zipS (l := (wo l s).reverse.map bc) (by rw [List.length_map, List.length_map, List.length_reverse, List.length_reverse, hvl, lrs])) (fun k σ H' => Xt (tK K) H5 H' ∧ ∃ (t5 t6 : Option V), σ = [some (.ref t), some (.str (sg s)), some (.int (n : Int)), some (.str (sb (wo l s))), some (.int ((pp (wos l) (wo l s) p (wdt l - k) : Nat) : Int)), t5, t6])
                ⟨.refl, _, _, rfl⟩ (fun _ _ _ _ h => SqL.of (h.1.lst e5)) ?_ ?_⟩
              · intro k y σ Ha Hb hk hp2 hy
                obtain ⟨xa, t5, t6, rfl⟩ := hp2
                obtain ⟨p6, v, c, rfl, np, rfl, hc2, hv⟩ := hy
                rw [List.getElem?_map] at hc2 hv
                obtain ⟨r, hr1, rfl⟩ := Option.map_eq_some_iff.mp hv
                obtain ⟨b', hb', rfl⟩ := Option.map_eq_some_iff.mp hc2
                have hk : k < wdt l := by rw [← lrs, ← List.length_reverse]; exact (List.getElem?_eq_some_iff.mp hr1).1
                rw [List.getElem?_reverse (by omega), lrs] at hr1
                rw [List.getElem?_reverse (by omega), hvl] at hb'
                obtain ⟨m, hm1⟩ : ∃ m, m + 1 = wdt l - k := ⟨wdt l - k - 1, by omega⟩
                rw [show wdt l - 1 - k = m by omega] at hr1 hb'
                have hbk : bk m (wo l s) = b' := by
                  unfold bk
                  rw [List.getD_eq_getElem?_getD, hb']
                  rfl
                generalize hH : upd Ha p6 _ = Hc
                have xc : Xt (tK K) Ha Hc := newE hH np
                have ep := atE hH
                clear hH np
                have xa := xa.trans xc
                have xa5 := x5.trans xa
                obtain ⟨m0, hrow⟩ := TextAt.still (fs := []) xa5 hT et eR m r hr1
                obtain ⟨A, C, B⟩ := blk (x := wo l s) (w := wdt l) (W := wos l) wos_len m (by omega) (by omega)
                have bitv := B.bit hw
                rw [hbk] at bitv
                have p1 : pp (wos l) (wo l s) p (wdt l - k) = gnn (rowB (wos l) m) (pp (wos l) (wo l s) p m) b' := by
                  rw [← hm1, ← hbk]
                  rfl
                have eta := xa5.ins et textSeen
                refine ⟨p6, _, rfl, .inl (.inl ep), rfl, _, _, rfl, _, _, rfl, rfl, ?_⟩
                refine ⟨_, rfl, t, dx, _, rfl, eta, rfl, _, rfl, _, rfl, _, rfl, _, _, rfl, int_bit b', by exact (by decide : 1 ≤ 640), t, r, rowB (wos l) m, m0, pp (wos l) (wo l s) p m, b', by rw [p1]; rfl, hrow, bitv, fun H7 x7 => ?_⟩
                rw [show wdt l - (k + 1) = m by omega]
                exact ⟨xa.trans x7, _, _, rfl⟩
              · intro σ Ha hp2
                obtain ⟨xa, t5, t6, rfl⟩ := hp2
                have e0 : pp (wos l) (wo l s) p (wdt l - (rs.reverse.map V.ref).length) = p := by
                  rw [List.length_map, List.length_reverse, lrs, Nat.sub_self]
                  rfl
                have q := q Ha (x5.trans xa)
                refine ⟨_, rfl, ?_⟩
                rw [e0]
                exact q
        · omega
        · rw [hbad c hc] at ok
          cases ok
      · rcases hq with ⟨s, n, hs, ok, rfl, q⟩ | ⟨hbad, _⟩ | ⟨_, _, q⟩
        · rw [bad s hs] at ok
          cases ok
        · omega
        · exact q
    · have h0 := of_decide_eq_false h0
      rcases hq with ⟨s, n, hs, ok, rfl, q⟩ | ⟨_, q⟩ | ⟨h2, _, _⟩
      · omega
      · exact q
      · omega
def spTRoom (K : PySem.W.Frag) : Sp := fun vs H Q E => ∃ (t : Addr) (l : List Nat), vs = [.ref t] ∧ TextAt K H t l ∧ ∀ H', Xt (tK K) H H' → Q (.int ((7 * (ltr l).length + wdt l * (l.length + l.length / 32 * nd l.length) : Nat) : Int)) H'
theorem ok_Text_room (T : Tx K mg) : OkN P w K mg base ("Text", some "room") 2 ["self"] (spTRoom K) := by
  refine T.F_Text_room.ok sc_Text_room (fun vs H Q E h => ?_) (fun cdv A outer s H vs Q E hr h => ?_)
  · obtain ⟨t, l, rfl, _⟩ := h
    rfl
  · obtain ⟨t, l, rfl, hT, q⟩ := h
    have ⟨g, dx, R, rs, et, eR, lrs, hrs⟩ := hT
    have lwo : (wos l).length = l.length := List.length_map ..
    have ll := ltr_len l
    have hwd := wdt_le l
    refine ⟨_, (pss_one (ps_ret (pe_op op_add (pe_op op_mul (pe_glob (v := .int _) (by rfl) T.c_LETTER_BITS.choose_spec ⟨_, rfl⟩) (pe_callB call_len_str (by rfl) T.z_len b_len (pa_cons (pe_fldK (K := K) rfl (pv 0) (by rfl)) pa_nil))) (pe_callB (cr_sumK (K := K) rfl rfl) (by rfl) T.z_sum b_sum (pa_cons (pe_lc (own := [("row", 1)]) rfl sc_Text_room.nd (pi_listK (K := K) rfl (pe_fldK (K := K) rfl (pv 0) (by rfl))) (blkOk_by (N := N_Text_room) (sc := defScope s_Text_room) (by decide +kernel)) (fun _ _ _ _ _ => (pg_name (i := 1) sc_Text_room.nd rfl (.inl rfl))) (fun _ _ _ _ _ => pts_nil) (fun _ _ _ _ _ => (pe_meth0 (dvs := []) (pv 1) T.k_Row T.M_Row_room (ok_Row_room T) (hr.mono (by decide)) T.B_Row_room .nil psP0))) pa_nil))))), ?_⟩
    refine ⟨_, rfl, t, _, dx, _, _, rfl, et, T.k_Text, T.n_Text_signs, rfl, _, rfl, by rw [S_len]; exact tfits (by omega), _, _, rfl, rfl, .inl ⟨by decide, by decide⟩, ?_⟩
    refine ⟨_, rfl, t, _, dx, _, _, rfl, et, T.k_Text, T.n_Text_rows, rfl, R, rfl, ⟨_, SqL.of eR⟩, fun D hD => lcP (T := tK K) w_list hD (by rw [List.length_map]; omega) (fun _ x => x.seq (SqL.of eR)) (fun i => .int ((l.length + l.length / 32 * nd l.length : Nat) : Int)) ?_ fun H2 x2 e2 => ?_⟩
    · intro i x H' hi hy x1 Q q
      rw [List.getElem?_map] at hy
      obtain ⟨r, hr1, rfl⟩ := Option.map_eq_some_iff.mp hy
      obtain ⟨m, hrow⟩ := TextAt.still (fs := []) x1 hT et eR i r hr1
      have ⟨_, dr, er⟩ := hrow
      have lb : (rowB (wos l) i).length = l.length := by rw [rowB_len, lwo]
      refine ⟨_, rfl, r, dr, _, rfl, er, rfl, r, _, m, rfl, hrow, ?_⟩
      rw [lb]
      exact q H' .refl
    · obtain ⟨a, ha⟩ : ∃ a : Nat, a = l.length + l.length / 32 * nd l.length := ⟨_, rfl⟩
      rw [← ha] at e2 q
      have ev : ((List.range (rs.map V.ref).length).map fun _ => V.int ((a : Nat) : Int)) = (List.replicate (wdt l) ((a : Nat) : Int)).map V.int := by
        rw [List.length_map, lrs, List.map_const', List.length_range, List.map_replicate]
      rw [ev] at e2
      refine ⟨D, _, rfl, SqL.of e2, _, _, rfl, rfl, ?_⟩
      have es : (List.replicate (wdt l) ((a : Nat) : Int)).sum = ((wdt l * a : Nat) : Int) := by
        induction wdt l with
        | zero => simp
        | succ n ih =>
          rw [List.replicate_succ, List.sum_cons, ih]
          rw [Nat.succ_mul]
          omega
      rw [es, S_len]
      have q := q H2 x2
      rw [show ((7 * (ltr l).length + wdt l * a : Nat) : Int) = 7 * (((ltr l).length : Nat) : Int) + ((wdt l * a : Nat) : Int) by omega] at q
      exact q
end
end Tw

set_option maxHeartbeats 4000000
namespace Tw
open PySem PySem.Spec PyProof.Rows L2 LamX
section
variable {P : Program} {w : World} {K : PySem.W.Frag} {mg : Str → Option Value} {base : Heap}
/-! ### the law's model of a tree -/
abbrev ik (i : Nat) : L2.Key := Sum.inl (i : Int)
abbrev tk (z : Str) : L2.Key := Sum.inr z
def rec0 (u : V) (d : Int) (b : Addr) (n : Nat) : List (L2.Key × V) := [(tk "up", u), (tk "depth", .int d), (tk "below", .ref b), (tk "number", .int n)]
def rec1 (u : V) (d : Int) (b : Addr) (n e h : Nat) : List (L2.Key × V) := [(tk "up", u), (tk "depth", .int d), (tk "below", .ref b), (tk "number", .int n), (tk "end", .int e), (tk "behind", .int h)]
section
variable {u v : V} {d : Int} {b : Addr} {n e h : Nat}
theorem rec_merge : mergeK [] (rec0 u d b n) = rec0 u d b n := by kernel_rfl
theorem rec_up : putK (rec0 u d b n) (tk "up") v = rec0 v d b n := by kernel_rfl
theorem rec_end : putK (putK (rec0 u d b n) (tk "end") (.int (e : Nat))) (tk "behind") (.int (h : Nat)) = rec1 u d b n e h := by kernel_rfl
theorem rec_end1 : putK (rec0 u d b n) (tk "end") (.int (e : Nat)) = [(tk "up", u), (tk "depth", .int d), (tk "below", .ref b), (tk "number", .int n), (tk "end", .int e)] := by kernel_rfl
theorem rec0_below : valV (rec0 u d b n) (tk "below") = some (.ref b) := by kernel_rfl
theorem rec1_up : valV (rec1 u d b n e h) (tk "up") = some u := by kernel_rfl
theorem rec1_depth : valV (rec1 u d b n e h) (tk "depth") = some (.int d) := by kernel_rfl
theorem rec1_below : valV (rec1 u d b n e h) (tk "below") = some (.ref b) := by kernel_rfl
theorem rec1_number : valV (rec1 u d b n e h) (tk "number") = some (.int n) := by kernel_rfl
theorem rec1_end : valV (rec1 u d b n e h) (tk "end") = some (.int e) := by kernel_rfl
theorem rec1_behind : valV (rec1 u d b n e h) (tk "behind") = some (.int h) := by kernel_rfl
end
theorem dgI {H : Hp} {a : Addr} {kvs : List (L2.Key × V)} {i : Int} {v : V} (e : H a = some (.dK kvs)) (h : valV kvs (Sum.inl i) = some v) : DGet H a (.int i) (some v) := by
  rw [← h]
  exact DGet.k (k := Sum.inl i) e
theorem dgS {H : Hp} {a : Addr} {kvs : List (L2.Key × V)} {z : Str} {v : V} (e : H a = some (.dK kvs)) (h : valV kvs (tk z) = some v) : DGet H a (.str z) (some v) := by
  rw [← h]
  exact DGet.k (k := tk z) e
theorem valV_mapN {f : Nat → V} {i : Nat} : ∀ {ps : List Nat}, valV (ps.map fun p => (ik p, f p)) (ik i) = if i ∈ ps then some (f i) else none
  | [] => by simp [valV_nil]
  | p :: ps => by
    rw [List.map_cons]
    by_cases h : p = i
    · subst h
      rw [valV_pos (by rfl), if_pos List.mem_cons_self]
    · have hne : ¬ (ik p, f p).1 = ik i := fun z => h (by have := Sum.inl.inj z; omega)
      rw [valV_neg hne, valV_mapN]
      by_cases h2 : i ∈ ps
      · rw [if_pos h2, if_pos (List.mem_cons_of_mem _ h2)]
      · rw [if_neg h2, if_neg (fun z => (List.mem_cons.mp z).elim (fun e => h e.symm) h2)]
/-- what stands at a node, of the bits ahead of t -/
def recT (l : List Bool) (t p : Nat) (b : Addr) : List (L2.Key × V) := if en l p < t then rec1 (on (up l p)) (dq l p) b (cn true l p) (en l p) (cn false l (en l p)) else rec0 (on (up l p)) (dq l p) b (cn true l p)
structure MSt (H' : Hp) (l : List Bool) (t : Nat) (d O : Addr) (ra ba : Nat → Addr) : Prop where
  hd : H' d = some (.dK ((fr (bt true l) t).map fun p => (ik p, V.ref (ra p))))
  hO : H' O = some (.lst ((stk l t).map fun i : Nat => .int i))
  hr : ∀ p, p < t → l[p]? = some true → H' (ra p) = some (.dK (recT l t p (ba p)))
  hb : ∀ p, p < t → l[p]? = some true → H' (ba p) = some (.lst ((fr (isCh l p) t).map fun i : Nat => .int i))
  ndr : ∀ p, p < t → l[p]? = some true → d ≠ ra p
  nOb : ∀ p, p < t → l[p]? = some true → O ≠ ba p
  rr : ∀ p q, p < t → q < t → l[p]? = some true → l[q]? = some true → ra p = ra q → p = q
  bb : ∀ p q, p < t → q < t → l[p]? = some true → l[q]? = some true → ba p = ba q → p = q
structure MNw (H : Hp) (l : List Bool) (t : Nat) (d O : Addr) (ra ba : Nat → Addr) : Prop where
  wd : Nw H d
  wO : Nw H O
  wr : ∀ p, p < t → l[p]? = some true → Nw H (ra p)
  wb : ∀ p, p < t → l[p]? = some true → Nw H (ba p)
structure MAt (H : Hp) (d : Addr) (l : List Bool) (ra ba : Nat → Addr) : Prop where
  d : H d = some (.dK ((pos true l).map fun p => (ik p, V.ref (ra p))))
  r : ∀ p, l[p]? = some true → H (ra p) = some (.dK (rec1 (on (up l p)) (dq l p) (ba p) (cn true l p) (en l p) (cn false l (en l p))))
  b : ∀ p, l[p]? = some true → H (ba p) = some (.lst ((below l p).map fun i : Nat => .int i))
def ModAt (H : Hp) (d : Addr) (l : List Bool) : Prop := ∃ ra ba : Nat → Addr, MAt H d l ra ba
theorem MAt.xt {lo : Prop} {T : List (Addr × Str)} {H H' : Hp} {d : Addr} {l : List Bool} {ra ba : Nat → Addr} (h : MAt H d l ra ba) (x : Xg lo T H H') : MAt H' d l ra ba :=
  ⟨x.fix h.d (fun _ _ _ z => by cases z) (fun ps z => by cases z), fun p hp => x.fix (h.r p hp) (fun _ _ _ z => by cases z) (fun ps z => by cases z), fun p hp => x.lst (h.b p hp)⟩
theorem ModAt.xt {lo : Prop} {T : List (Addr × Str)} {H H' : Hp} {d : Addr} {l : List Bool} (h : ModAt H d l) (x : Xg lo T H H') : ModAt H' d l := by
  obtain ⟨ra, ba, h⟩ := h
  exact ⟨ra, ba, h.xt x⟩
theorem MAt.g {H : Hp} {d : Addr} {l : List Bool} {ra ba : Nat → Addr} (h : MAt H d l ra ba) {p : Nat} (hp : l[p]? = some true) : DGet H d (.int p) (some (.ref (ra p))) := dgI h.d (by
  rw [show (Sum.inl (p : Int) : L2.Key) = ik p from rfl, valV_mapN, if_pos]
  exact fr_mem.mpr ⟨len_of hp, bt_iff.mpr hp⟩)
theorem dK_ne {H : Hp} {a b : Addr} {kvs : List (L2.Key × V)} {xs : List V} (h1 : H a = some (.dK kvs)) (h2 : H b = some (.lst xs)) : a ≠ b := fun z => by
  rw [z, h2] at h1
  cases h1
theorem recT_old {l : List Bool} {t p : Nat} {b : Addr} (h : en l p ≠ t) : recT l (t + 1) p b = recT l t p b := by
  unfold recT
  by_cases h1 : en l p < t
  · rw [if_pos h1, if_pos (by omega)]
  · rw [if_neg h1, if_neg (by omega)]
theorem recT_below {l : List Bool} {t p : Nat} {b : Addr} : valV (recT l t p b) (tk "below") = some (.ref b) := by
  unfold recT
  split
  · exact rec1_below
  · exact rec0_below
theorem ones_iff {l : List Bool} {t p : Nat} : p ∈ fr (bt true l) t ↔ p < t ∧ l[p]? = some true := by rw [fr_mem, bt_iff]
theorem Pl.dK {H : Hp} {p : Addr} {kvs : List (L2.Key × V)} (h : H p = some (.dK kvs)) : Pl H p := fun u e => by
  rw [h] at e
  cases e
  exact ⟨fun ps z => (nomatch z), fun f z => (nomatch z)⟩
theorem Xg.putD {lo : Prop} {T : List (Addr × Str)} {H H' : Hp} {p : Addr} {kvs kws : List (L2.Key × V)} (e : Xg lo T H H') (h : Nw H p) (hl : H' p = some (.dK kvs)) : Xg lo T H (upd H' p (.dK kws)) := e.put h (.dK hl)
def spModel (K : PySem.W.Frag) : Sp := fun vs H Q E => ∃ (l : List Bool), vs = [.str (sb l)] ∧ okT l ∧ l.length ≤ 2000 ∧ ∀ H' d, Xs (tK K) H H' → ModAt H' d l → Q (.ref d) H'
theorem ok__law_model (T : Tx K mg) : OkN P w K mg base ("_law_model", none) 1 ["_law_bits"] (spModel K) := by
  refine T.F__law_model.ok sc__law_model (fun vs H Q E h => ?_) (fun cdv A outer s H vs Q E hr h => ?_)
  · obtain ⟨l, rfl, _⟩ := h
    rfl
  · obtain ⟨l, rfl, W, hl, q⟩ := h
    refine ⟨_, (pss_cons (ps_set (i := 1) sc__law_model.nd rfl (.inl rfl) pe_dnewK)
    (pss_cons (ps_set (i := 2) sc__law_model.nd rfl (.inl rfl) (pe_lst pa_nil))
    (pss_cons (ps_set (i := 3) sc__law_model.nd rfl (.inl rfl) pe_int)
    (pss_cons (ps_for (passes_of rfl) rfl (pi_range1 (by rfl) T.z_range (pa_cons (pe_callB call_len_str (by rfl) T.z_len b_len (pa_cons (pv 0) pa_nil)) pa_nil)) (pg_name (i := 4) sc__law_model.nd rfl (.inl rfl))
    (pss_one (ps_if (pt_cmpR op_eq (pe_ix ix_str (pv 0) (pv 4) (fun _ _ => rfl)) pe_str (nomark _))
    (pss_cons (ps_set (i := 5) sc__law_model.nd rfl (.inl rfl) (pe_disp (pps_cons pe_str pe_non (pps_cons pe_str (pe_callB (call_len_seqK (K := K) rfl) (by rfl) T.z_len b_len (pa_cons (pv 2) pa_nil)) (pps_cons pe_str (pe_lst pa_nil) (pps_cons pe_str (pe_callB call_lenD (by rfl) T.z_len b_len (pa_cons (pv 1) pa_nil)) pps_nil)))) (by rfl) (by rfl) (fun z => by cases z) (by decide)))
    (pss_cons (ps_if (pt_cmpR (op_neDK (K := K) rfl hr.units) (pv 2) (pe_lst pa_nil) (nomark _))
    (pss_cons (ps_dputU hr.units (pv 5) pe_str (pe_ix (ix_listK (K := K) rfl) (pv 2) (pe_un un_neg pe_int) (fun _ _ => rfl)) rfl)
    (pss_one (ps_expr (pe_bmK (K := K) rfl F.plainAttrs_list F.slot_list_append F.type_list_append mt_append (pe_dgetU hr.units (pe_dgetU hr.units (pv 1) (pe_ix (ix_listK (K := K) rfl) (pv 2) (pe_un un_neg pe_int) (fun _ _ => rfl)) (fun _ _ => rfl)) pe_str (fun _ _ => rfl)) (pa_cons (pv 4) pa_nil) (by rfl) (by rfl) (by rfl) (by rfl) (by rfl))))) pss_nil)
    (pss_cons (ps_dputU hr.units (pv 1) (pv 4) (pv 5) rfl)
    (pss_one (ps_expr (pe_bmK (K := K) rfl F.plainAttrs_list F.slot_list_append F.type_list_append mt_append (pv 2) (pa_cons (pv 4) pa_nil) (by rfl) (by rfl) (by rfl) (by rfl) (by rfl))))))) (pss_cons (ps_set (i := 6) sc__law_model.nd rfl (.inl rfl) (pe_bm0K (K := K) rfl F.plainAttrs_list F.slot_list_pop F.type_list_pop mt_pop (pv 2) (by rfl) (by rfl)))
    (pss_cons (ps_dputU hr.units (pe_dgetU hr.units (pv 1) (pv 6) (fun _ _ => rfl)) pe_str (pv 4) rfl)
    (pss_cons (ps_dputU hr.units (pe_dgetU hr.units (pv 1) (pv 6) (fun _ _ => rfl)) pe_str (pv 3) rfl)
    (pss_one (ps_set (i := 3) sc__law_model.nd rfl (.inl rfl) (pe_op op_add (pv 3) pe_int)))))))))
    (pss_one (ps_ret (pv 1))))))), ?_⟩
    have hz : (sb l).length ≤ sizeLine := by rw [sb_len]; exact Nat.le_trans hl (by decide)
    have fits : ∀ n, n ≤ 3000 → n < sizeLine := fun n h => Nat.lt_of_le_of_lt h (by decide)
    have e1s : (Str.ofString "1" : Str) = S [bc true] := by decide +kernel
    refine fun d nd => ?_
    generalize hH : upd H d _ = H1
    have x1 : Xs (tK K) H H1 := newE hH nd
    have ed := atE hH
    clear hH
    refine ⟨by decide, fun O nO => ?_⟩
    have wO : Nw H O := x1.nw (.of nO)
    generalize hH : upd H1 O _ = H2
    have xx : Xs (tK K) H1 H2 := newE hH nO
    have eO := atE hH
    have ed := xx.same ed fun ps z => by cases z
    have x2 := x1.trans xx
    clear hH nO xx
    have ek : (((sb l).length : Nat) : Int).toNat = l.length := by rw [sb_len]; omega
    refine ⟨_, rfl, _, rfl, hz, _, rfl, by rw [sb_len]; omega, by rw [sb_len]; omega, for_it w_range (fun t σ H' => Xs (tK K) H H' ∧ ∃ (ra ba : Nat → Addr) (t4 t5 t6 : Option V), MSt H' l t d O ra ba ∧ MNw H l t d O ra ba ∧ σ = [some (.str (sb l)), some (.ref d), some (.ref O), some (.int (cn false l t : Nat)), t4, t5, t6]) ⟨x2, fun _ => 0, fun _ => 0, none, none, none, ⟨ed, eO, fun p h => absurd h (Nat.not_lt_zero _), fun p h => absurd h (Nat.not_lt_zero _), fun p h => absurd h (Nat.not_lt_zero _), fun p h => absurd h (Nat.not_lt_zero _), fun p q h => absurd h (Nat.not_lt_zero _), fun p q h => absurd h (Nat.not_lt_zero _)⟩, ⟨.of nd, wO, fun p h => absurd h (Nat.not_lt_zero _), fun p h => absurd h (Nat.not_lt_zero _)⟩, rfl⟩ (fun _ _ _ _ _ => trivial) ?_ ?_⟩
    · intro t x σ Ha Hb hi hp hy
      obtain ⟨xa, ra, ba, t4, t5, t6, ms, mn, rfl⟩ := hp
      obtain ⟨rfl, rfl⟩ := hy
      rw [ek] at hi
      have ei : (0 : Int) + (t : Int) = (t : Int) := by omega
      rw [ei]
      have hb : l[t]? = some l[t] := List.getElem?_eq_getElem hi
      generalize l[t] = b at hb
      have hcb : (l.map bc)[t]? = some (bc b) := by rw [List.getElem?_map, hb]; rfl
      have eb : decide (V.str ⟨#[bc b]⟩ = V.str "1") = b := by rw [e1s]; cases b <;> decide +kernel
      have hsl : (stk l t).length ≤ 200 := by
        have h1 := stk_len W (Nat.le_of_lt hi)
        have h2 := W.dqT (Nat.le_of_lt hi)
        omega
      have hfl : (fr (bt true l) t).length ≤ 2000 := Nat.le_trans fr_le (by omega)
      cases b with
      | true =>
        refine ⟨_, rfl, _, rfl, sb l, _, bc true, rfl, rfl, hz, atI_nat hcb, rfl, _, rfl, ite2 (fun _ => ?_) (fun h => absurd eb h)⟩
        -- the record
        refine fun p np => ?_
        have wp : Nw H p := xa.nw (.of np)
        have pd : d ≠ p := fun z => by rw [← z, ms.hd] at np; cases np
        have pO : O ≠ p := fun z => by rw [← z, ms.hO] at np; cases np
        have pr : ∀ q, q < t → l[q]? = some true → ra q ≠ p := fun q h1 h2 z => by rw [← z, ms.hr q h1 h2] at np; cases np
        have pb : ∀ q, q < t → l[q]? = some true → ba q ≠ p := fun q h1 h2 z => by rw [← z, ms.hb q h1 h2] at np; cases np
        generalize hH : upd Hb p _ = Hc
        have xc : Xs (tK K) Hb Hc := newE hH np
        have epc := atE hH
        clear hH
        have msO := xc.lst ms.hO
        have msd := xc.same ms.hd fun ps z => by cases z
        refine ⟨_, rfl, _, _, rfl, .inl (SqL.of msO), by decide, fun c nc => ?_⟩
        have wc : Nw H c := (xa.trans xc).nw (.of nc)
        have cp : p ≠ c := fun z => by rw [← z, epc] at nc; cases nc
        have cd : d ≠ c := fun z => by rw [← z, msd] at nc; cases nc
        have cO : O ≠ c := fun z => by rw [← z, msO] at nc; cases nc
        have cr : ∀ q, q < t → l[q]? = some true → ra q ≠ c := fun q h1 h2 z => by rw [← z, xc.same (ms.hr q h1 h2) fun ps z => by cases z] at nc; cases nc
        have cb : ∀ q, q < t → l[q]? = some true → ba q ≠ c := fun q h1 h2 z => by rw [← z, xc.lst (ms.hb q h1 h2)] at nc; cases nc
        generalize hH : upd Hc c _ = Hd
        have xd : Xs (tK K) Hc Hd := newE hH nc
        have ecd := atE hH
        clear hH
        have msd := xd.same msd fun ps z => by cases z
        have msO := xd.lst msO
        have epd := xd.same epc fun ps z => by cases z
        refine ⟨_, rfl, d, _, rfl, msd, epd, rec0 .non (((stk l t).map fun i : Nat => V.int i).length : Nat) c ((fr (bt true l) t).map fun p => (ik p, V.ref (ra p))).length, rfl, by exact (by decide : 4 ≤ 15), ?_⟩
        rw [rec_merge, List.length_map, List.length_map, stk_len W (Nat.le_of_lt hi)]
        have xde := xc.trans xd
        have msr : ∀ q, q < t → l[q]? = some true → Hd (ra q) = some (.dK (recT l t q (ba q))) := fun q h1 h2 => xde.same (ms.hr q h1 h2) fun ps z => by cases z
        have msb : ∀ q, q < t → l[q]? = some true → Hd (ba q) = some (.lst ((fr (isCh l q) t).map fun i : Nat => .int i)) := fun q h1 h2 => xde.lst (ms.hb q h1 h2)
        have xd := xa.trans xde
        clear xa xc xde epc np nc
        generalize hH : upd Hd p _ = He
        have xe : Xs (tK K) H He := by rw [← hH]; exact xd.putD wp epd
        have epe := atE hH
        have ece : He c = some (.lst []) := by rw [← hH, upd_ne (Ne.symm cp)]; exact ecd
        have ede : He d = some (.dK ((fr (bt true l) t).map fun p => (ik p, V.ref (ra p)))) := by rw [← hH, upd_ne pd]; exact msd
        have eOe : He O = some (.lst ((stk l t).map fun i : Nat => .int i)) := by rw [← hH, upd_ne pO]; exact msO
        have ere : ∀ q, q < t → l[q]? = some true → He (ra q) = some (.dK (recT l t q (ba q))) := fun q h1 h2 => by rw [← hH, upd_ne (pr q h1 h2)]; exact msr q h1 h2
        have ebe : ∀ q, q < t → l[q]? = some true → He (ba q) = some (.lst ((fr (isCh l q) t).map fun i : Nat => .int i)) := fun q h1 h2 => by rw [← hH, upd_ne (pb q h1 h2)]; exact msb q h1 h2
        clear hH msd msO msr msb epd ecd xd
        apply via (P := fun H' => Xs (tK K) H H' ∧ H' p = some (.dK (rec0 (on (up l t)) (dq l t) c (cn true l t))) ∧ H' c = some (.lst []) ∧ H' d = some (.dK ((fr (bt true l) t).map fun p => (ik p, V.ref (ra p)))) ∧ H' O = some (.lst ((stk l t).map fun i : Nat => .int i)) ∧ (∀ q, q < t → l[q]? = some true → H' (ra q) = some (.dK (recT l t q (ba q)))) ∧ (∀ q, q < t → l[q]? = some true → H' (ba q) = some (.lst ((fr (isCh l q) (t + 1)).map fun i : Nat => .int i))))
        · intro rest
          refine ⟨_, rfl, by decide, fun p2 np2 => ?_⟩
          have q1 : ∀ {a o}, He a = some o → a ≠ p2 := fun {a o} h z => by rw [← z, h] at np2; cases np2
          generalize hH : upd He p2 _ = Hf
          have xf : Xs (tK K) He Hf := newE hH np2
          have ef := atE hH
          clear hH
          have eOf := xf.lst eOe
          have sO : SqL K Hf O (((stk l t).map Int.ofNat).map .int) := SqL.of (by rw [eOf, List.map_map]; rfl)
          have sN : SqL K Hf p2 ((([] : List Int)).map .int) := SqL.of ef
          refine neD_of (dp_ints sO) (dp_ints sN) sh_ints sh_ints ?_
          rw [eqv_ints]
          cases hu : up l t with
          | none =>
            have h0 : stk l t = [] := List.getLast?_eq_none_iff.mp hu
            refine ⟨_, rfl, ite2 (fun h => ?_) (fun _ => rest Hf ⟨xe.trans xf, ?_, xf.lst ece, xf.same ede (fun ps z => by cases z), eOf, fun q h1 h2 => xf.same (ere q h1 h2) (fun ps z => by cases z), fun q h1 h2 => ?_⟩)⟩
            · rw [h0] at h
              cases h
            · rw [hu]
              exact xf.same epe fun ps z => by cases z
            · rw [fr_succ, if_neg (fun z => by rw [(isCh_iff.mp z).2] at hu; cases hu), List.append_nil]
              exact xf.lst (ebe q h1 h2)
          | some q0 =>
            obtain ⟨hq1, hq2⟩ := stk_mem (up_mem hu)
            have hst := up_stk hu
            have hat : atI ((stk l t).map fun i : Nat => V.int i) (-1) = some (.int q0) := by
              rw [hst, List.map_append]
              exact atI_last _ _
            refine ⟨_, rfl, ite2 (fun _ => ?_) (fun h => ?_)⟩
            · have epf := xf.same epe fun ps z => by cases z
              refine ⟨_, rfl, _, rfl, O, _, -1, .int q0, rfl, rfl, SqL.of eOf, hat, _, rfl, p, _, rfl, DPut.k (k := tk "up") epf (by exact (by decide : 4 < sizeLine)), ?_⟩
              rw [rec_up]
              generalize hH : upd Hf p _ = Hg
              have xg : Xs (tK K) H Hg := by rw [← hH]; exact (xe.trans xf).putD wp epf
              have keep : ∀ {a o}, a ≠ p → Hf a = some o → Hg a = some o := fun {a o} h1 h2 => by rw [← hH, upd_ne h1]; exact h2
              have epg := atE hH
              clear hH
              have eOg := keep pO eOf
              have edg := keep pd (xf.same ede fun ps z => by cases z)
              have erg : ∀ q, q < t → l[q]? = some true → Hg (ra q) = some (.dK (recT l t q (ba q))) := fun q h1 h2 => keep (pr q h1 h2) (xf.same (ere q h1 h2) fun ps z => by cases z)
              have ebg : ∀ q, q < t → l[q]? = some true → Hg (ba q) = some (.lst ((fr (isCh l q) t).map fun i : Nat => .int i)) := fun q h1 h2 => keep (pb q h1 h2) (xf.lst (ebe q h1 h2))
              have ecg := keep (Ne.symm cp) (xf.lst ece)
              refine ⟨_, rfl, _, rfl, _, rfl, O, _, -1, .int q0, rfl, rfl, SqL.of eOg, hat, d, .ref (ra q0), rfl, dgI edg (by rw [show (Sum.inl (q0 : Int) : L2.Key) = ik q0 from rfl, valV_mapN, if_pos (ones_iff.mpr ⟨hq1, hq2⟩)]), ra q0, .ref (ba q0), rfl, dgS (erg q0 hq1 hq2) recT_below, .inl ⟨rfl, _, SqL.of (ebg q0 hq1 hq2)⟩, _, rfl, ba q0, _, _, rfl, rfl, ebg q0 hq1 hq2, ?_, ?_⟩
              · rw [List.length_map]
                exact fits _ (Nat.le_trans fr_le (by omega))
              generalize hH : upd Hg (ba q0) _ = Hh
              have xh : Xs (tK K) H Hh := by rw [← hH]; exact xg.mut (mn.wb q0 hq1 hq2) (ebg q0 hq1 hq2)
              have keep : ∀ {a o}, a ≠ ba q0 → Hg a = some o → Hh a = some o := fun {a o} h1 h2 => by rw [← hH, upd_ne h1]; exact h2
              have ebh := atE hH
              clear hH
              refine rest Hh ⟨xh, ?_, keep (Ne.symm (cb q0 hq1 hq2)) ecg, keep (dK_ne edg (ebg q0 hq1 hq2)) edg, keep (ms.nOb q0 hq1 hq2) eOg, fun q h1 h2 => keep (dK_ne (erg q h1 h2) (ebg q0 hq1 hq2)) (erg q h1 h2), fun q h1 h2 => ?_⟩
              · rw [hu]
                exact keep (Ne.symm (pb q0 hq1 hq2)) epg
              · by_cases hq : q = q0
                · subst hq
                  rw [ebh, fr_succ, if_pos (isCh_iff.mpr ⟨hb, hu⟩), List.map_append]
                  rfl
                · rw [fr_succ, if_neg (fun z => hq (by have := (isCh_iff.mp z).2; rw [hu] at this; exact (Option.some.inj this).symm)), List.append_nil]
                  exact keep (fun z => hq (ms.bb q q0 h1 hq1 h2 hq2 z)) (ebg q h1 h2)
            · exfalso
              apply h
              rw [hst]
              simp
        rintro H' ⟨xe, ep, ec, ed, eO, er, eb⟩
        refine ⟨_, rfl, _, rfl, _, rfl, d, _, rfl, DPut.k (k := ik t) ed (by rw [List.length_map]; exact fits _ (by omega)), ?_⟩
        rw [putK_new _ (by rw [valV_mapN, if_neg (fun z => by have := (ones_iff.mp z).1; omega)])]
        generalize hH : upd H' d _ = Hi
        have xi : Xs (tK K) H Hi := by rw [← hH]; exact xe.putD mn.wd ed
        have keep : ∀ {a o}, a ≠ d → H' a = some o → Hi a = some o := fun {a o} h1 h2 => by rw [← hH, upd_ne h1]; exact h2
        have edi := atE hH
        clear hH
        have eOi := keep (Ne.symm (dK_ne ed eO)) eO
        have epi := keep (Ne.symm pd) ep
        have eci := keep (Ne.symm cd) ec
        have eri : ∀ q, q < t → l[q]? = some true → Hi (ra q) = some (.dK (recT l t q (ba q))) := fun q h1 h2 => keep (Ne.symm (ms.ndr q h1 h2)) (er q h1 h2)
        have ebi : ∀ q, q < t → l[q]? = some true → Hi (ba q) = some (.lst ((fr (isCh l q) (t + 1)).map fun i : Nat => .int i)) := fun q h1 h2 => keep (Ne.symm (dK_ne ed (eb q h1 h2))) (eb q h1 h2)
        refine ⟨_, rfl, .inl ⟨rfl, _, SqL.of eOi⟩, _, rfl, O, _, _, rfl, rfl, eOi, by rw [List.length_map]; exact fits _ (by omega), ?_⟩
        generalize hH : upd Hi O _ = Hj
        have xj : Xs (tK K) H Hj := by rw [← hH]; exact xi.mut mn.wO eOi
        have keep : ∀ {a o}, a ≠ O → Hi a = some o → Hj a = some o := fun {a o} h1 h2 => by rw [← hH, upd_ne h1]; exact h2
        have eOj := atE hH
        clear hH
        have hen : ∀ q, l[q]? = some true → en l q ≠ t := fun q h z => by
          have := ((ends_en W h).last W h).2.1
          rw [z, hb] at this
          cases this
        have rold : ∀ q, q < t → (if q = t then p else ra q) = ra q := fun q h => if_neg (by omega)
        have bold : ∀ q, q < t → (if q = t then c else ba q) = ba q := fun q h => if_neg (by omega)
        have rnew : (if t = t then p else ra t) = p := if_pos rfl
        have bnew : (if t = t then c else ba t) = c := if_pos rfl
        refine ⟨xj, fun q => if q = t then p else ra q, fun q => if q = t then c else ba q, some (.int t), some (.ref p), t6, ⟨?_, ?_, fun q h1 h2 => ?_, fun q h1 h2 => ?_, fun q h1 h2 => ?_, fun q h1 h2 => ?_, fun q q2 h1 h2 h3 h4 h5 => ?_, fun q q2 h1 h2 h3 h4 h5 => ?_⟩, ⟨mn.wd, mn.wO, fun q h1 h2 => ?_, fun q h1 h2 => ?_⟩, ?_⟩
        · rw [keep (dK_ne edi eOi) edi, fr_succ, if_pos (bt_iff.mpr hb), List.map_append]
          congr 2
          · congr 1
            · refine List.map_congr_left fun q hq => ?_
              rw [rold q (ones_iff.mp hq).1]
            · show [(ik t, V.ref p)] = [(ik t, V.ref (if t = t then p else ra t))]
              rw [rnew]
        · rw [eOj, stk_up hb, List.map_append]
          rfl
        · show Hj (if q = t then p else ra q) = _
          by_cases hq : q = t
          · subst hq
            rw [rnew, bnew, keep (dK_ne epi eOi) epi]
            unfold recT
            rw [if_neg (by have := (ends_en W h2).lt; omega)]
          · rw [rold q (by omega), bold q (by omega), recT_old (hen q h2)]
            exact keep (dK_ne (eri q (by omega) h2) eOi) (eri q (by omega) h2)
        · show Hj (if q = t then c else ba q) = _
          by_cases hq : q = t
          · subst hq
            rw [bnew, keep (Ne.symm cO) eci]
            rw [show fr (isCh l q) (q + 1) = [] from by
              unfold fr
              rw [List.filter_eq_nil_iff]
              intro i hi z
              have := child_lt z
              have := List.mem_range.mp hi
              omega]
            rfl
          · rw [bold q (by omega)]
            exact keep (Ne.symm (ms.nOb q (by omega) h2)) (ebi q (by omega) h2)
        · show d ≠ (if q = t then p else ra q)
          by_cases hq : q = t
          · subst hq
            rw [rnew]
            exact pd
          · rw [rold q (by omega)]
            exact ms.ndr q (by omega) h2
        · show O ≠ (if q = t then c else ba q)
          by_cases hq : q = t
          · subst hq
            rw [bnew]
            exact cO
          · rw [bold q (by omega)]
            exact ms.nOb q (by omega) h2
        · have h5 : (if q = t then p else ra q) = (if q2 = t then p else ra q2) := h5
          by_cases hq : q = t
          · by_cases hq2 : q2 = t
            · rw [hq, hq2]
            · rw [if_pos hq, if_neg hq2] at h5
              exact absurd h5.symm (pr q2 (by omega) h4)
          · by_cases hq2 : q2 = t
            · rw [if_neg hq, if_pos hq2] at h5
              exact absurd h5 (pr q (by omega) h3)
            · rw [if_neg hq, if_neg hq2] at h5
              exact ms.rr q q2 (by omega) (by omega) h3 h4 h5
        · have h5 : (if q = t then c else ba q) = (if q2 = t then c else ba q2) := h5
          by_cases hq : q = t
          · by_cases hq2 : q2 = t
            · rw [hq, hq2]
            · rw [if_pos hq, if_neg hq2] at h5
              exact absurd h5.symm (cb q2 (by omega) h4)
          · by_cases hq2 : q2 = t
            · rw [if_neg hq, if_pos hq2] at h5
              exact absurd h5 (cb q (by omega) h3)
            · rw [if_neg hq, if_neg hq2] at h5
              exact ms.bb q q2 (by omega) (by omega) h3 h4 h5
        · show Nw H (if q = t then p else ra q)
          by_cases hq : q = t
          · rw [if_pos hq]
            exact wp
          · rw [if_neg hq]
            exact mn.wr q (by omega) h2
        · show Nw H (if q = t then c else ba q)
          by_cases hq : q = t
          · rw [if_pos hq]
            exact wc
          · rw [if_neg hq]
            exact mn.wb q (by omega) h2
        · rw [show cn false l (t + 1) = cn false l t from by rw [cn_succ, if_neg (fun z => by rw [bt_iff.mp z] at hb; cases hb)]; rfl]
          rfl
      | false =>
        refine ⟨_, rfl, _, rfl, sb l, _, bc false, rfl, rfl, hz, atI_nat hcb, rfl, _, rfl, ite2 (fun h => absurd (eb.symm.trans h) (by decide)) (fun _ => ?_)⟩
        have hd1 : 1 ≤ dq l t := by
          have h1 := dq_dn hb
          have h2 := W.dq0 (i := t + 1) (by omega)
          omega
        obtain ⟨p, hu⟩ : ∃ p, up l t = some p := by
          cases hu : up l t with
          | some p => exact ⟨p, rfl⟩
          | none =>
            have h0 : stk l t = [] := List.getLast?_eq_none_iff.mp hu
            have h1 := stk_len W (Nat.le_of_lt hi)
            rw [h0] at h1
            have h1 : (0 : Int) = dq l t := h1
            omega
        obtain ⟨hp1, hp2⟩ := stk_mem (up_mem hu)
        have hst := up_stk hu
        have hend : en l p = t := by
          have h1 := ((open_iff W hp2 (Nat.le_of_lt hi)).mp (up_mem hu)).2
          have h2 : ¬ p ∈ stk l (t + 1) := by
            rw [stk_dn (by rw [hb]; decide), hst, List.dropLast_concat]
            exact fun z => absurd (stk_mem z).1 (Nat.lt_irrefl _)
          rw [open_iff W hp2 (by omega)] at h2
          omega
        have hother : ∀ q, l[q]? = some true → q ≠ p → en l q ≠ t := fun q h1 h2 z => by
          have h3 := ((ends_en W h1).last W h1).1
          rw [z, hst] at h3
          have h4 := congrArg List.getLast? h3
          rw [List.getLast?_concat, List.getLast?_concat] at h4
          exact h2 (Option.some.inj h4).symm
        refine ⟨_, rfl, .inl ⟨rfl, _, SqL.of ms.hO⟩, O, _, .int p, rfl, rfl, ms.hO, ?_, ?_⟩
        · rw [hst, List.map_append, List.length_append]
          rw [List.getElem?_append_right (by simp)]
          simp
        generalize hH : upd Hb O _ = Hc
        have xc : Xs (tK K) H Hc := by rw [← hH]; exact xa.mut mn.wO ms.hO
        have keep : ∀ {a o}, a ≠ O → Hb a = some o → Hc a = some o := fun {a o} h1 h2 => by rw [← hH, upd_ne h1]; exact h2
        have eOc := atE hH
        clear hH
        have edc := keep (dK_ne ms.hd ms.hO) ms.hd
        have erc : ∀ q, q < t → l[q]? = some true → Hc (ra q) = some (.dK (recT l t q (ba q))) := fun q h1 h2 => keep (dK_ne (ms.hr q h1 h2) ms.hO) (ms.hr q h1 h2)
        have ebc : ∀ q, q < t → l[q]? = some true → Hc (ba q) = some (.lst ((fr (isCh l q) t).map fun i : Nat => .int i)) := fun q h1 h2 => keep (Ne.symm (ms.nOb q h1 h2)) (ms.hb q h1 h2)
        have dgp : ∀ {H' : Hp}, H' d = some (.dK ((fr (bt true l) t).map fun p => (ik p, V.ref (ra p)))) → DGet H' d (.int p) (some (.ref (ra p))) := fun h => dgI h (by rw [show (Sum.inl (p : Int) : L2.Key) = ik p from rfl, valV_mapN, if_pos (ones_iff.mpr ⟨hp1, hp2⟩)])
        have er0 : recT l t p (ba p) = rec0 (on (up l p)) (dq l p) (ba p) (cn true l p) := if_neg (by omega)
        have erp := erc p hp1 hp2
        rw [er0] at erp
        refine ⟨_, rfl, _, rfl, _, rfl, d, _, rfl, dgp edc, ra p, _, rfl, DPut.k (k := tk "end") erp (by exact (by decide : 4 < sizeLine)), ?_⟩
        generalize hH : upd Hc (ra p) _ = Hd
        have xd : Xs (tK K) H Hd := by rw [← hH]; exact xc.putD (mn.wr p hp1 hp2) erp
        have keep : ∀ {a o}, a ≠ ra p → Hc a = some o → Hd a = some o := fun {a o} h1 h2 => by rw [← hH, upd_ne h1]; exact h2
        have epd := atE hH
        clear hH
        have edd := keep (ms.ndr p hp1 hp2) edc
        refine ⟨_, rfl, _, rfl, _, rfl, d, _, rfl, dgp edd, ra p, _, rfl, DPut.k (k := tk "behind") epd (by rw [rec_end1]; exact (by decide : 5 < sizeLine)), ?_⟩
        rw [rec_end]
        generalize hH : upd Hd (ra p) _ = He
        have xe : Xs (tK K) H He := by rw [← hH]; exact xd.putD (mn.wr p hp1 hp2) epd
        have keep2 : ∀ {a o}, a ≠ ra p → Hd a = some o → He a = some o := fun {a o} h1 h2 => by rw [← hH, upd_ne h1]; exact h2
        have epe := atE hH
        clear hH
        have nc : ∀ q, isCh l q t = false := fun q => by
          rw [← Bool.not_eq_true]
          intro z
          rw [(isCh_iff.mp z).1] at hb
          cases hb
        refine ⟨_, rfl, _, _, rfl, rfl, xe, ra, ba, some (.int t), t5, some (.int p), ⟨?_, ?_, fun q h1 h2 => ?_, fun q h1 h2 => ?_, fun q h1 h2 => ?_, fun q h1 h2 => ?_, fun q q2 h1 h2 h3 h4 h5 => ?_, fun q q2 h1 h2 h3 h4 h5 => ?_⟩, ⟨mn.wd, mn.wO, fun q h1 h2 => ?_, fun q h1 h2 => ?_⟩, ?_⟩
        · rw [keep2 (ms.ndr p hp1 hp2) edd, fr_succ, if_neg (fun z => by rw [bt_iff.mp z] at hb; cases hb), List.append_nil]
        · have h6 := Ne.symm (dK_ne erp eOc)
          rw [keep2 h6 (keep h6 eOc), stk_dn (by rw [hb]; decide), List.map_dropLast]
        · by_cases hq : q = p
          · subst hq
            rw [epe]
            unfold recT
            rw [if_pos (by omega), hend]
          · have hqt : q ≠ t := fun z => by rw [z, hb] at h2; cases h2
            have h6 : ra q ≠ ra p := fun z => hq (ms.rr q p (by omega) hp1 h2 hp2 z)
            rw [recT_old (hother q h2 hq)]
            exact keep2 h6 (keep h6 (erc q (by omega) h2))
        · have hqt : q ≠ t := fun z => by rw [z, hb] at h2; cases h2
          have h6 : ba q ≠ ra p := Ne.symm (dK_ne erp (ebc q (by omega) h2))
          rw [fr_succ, if_neg (by rw [nc q]; decide), List.append_nil]
          exact keep2 h6 (keep h6 (ebc q (by omega) h2))
        · have hqt : q ≠ t := fun z => by rw [z, hb] at h2; cases h2
          exact ms.ndr q (by omega) h2
        · have hqt : q ≠ t := fun z => by rw [z, hb] at h2; cases h2
          exact ms.nOb q (by omega) h2
        · have hqt : q ≠ t := fun z => by rw [z, hb] at h3; cases h3
          have hqt2 : q2 ≠ t := fun z => by rw [z, hb] at h4; cases h4
          exact ms.rr q q2 (by omega) (by omega) h3 h4 h5
        · have hqt : q ≠ t := fun z => by rw [z, hb] at h3; cases h3
          have hqt2 : q2 ≠ t := fun z => by rw [z, hb] at h4; cases h4
          exact ms.bb q q2 (by omega) (by omega) h3 h4 h5
        · have hqt : q ≠ t := fun z => by rw [z, hb] at h2; cases h2
          exact mn.wr q (by omega) h2
        · have hqt : q ≠ t := fun z => by rw [z, hb] at h2; cases h2
          exact mn.wb q (by omega) h2
        · rw [show cn false l (t + 1) = cn false l t + 1 from by rw [cn_succ, if_pos (bt_iff.mpr hb)]]
          rfl
    · intro σ Ha hp
      obtain ⟨xa, ra, ba, t4, t5, t6, ms, mn, rfl⟩ := hp
      rw [ek] at *
      refine ⟨_, rfl, q Ha d xa ⟨ra, ba, ms.hd, fun p hp => ?_, fun p hp => ms.hb p (len_of hp) hp⟩⟩
      have h1 := ms.hr p (len_of hp) hp
      unfold recT at h1
      rw [if_pos (ends_en W hp).le] at h1
      exact h1
end
end Tw

set_option maxHeartbeats 4000000
namespace Tw
open PySem PySem.Spec PyProof.Rows L2 LamX
section
variable {P : Program} {w : World} {K : PySem.W.Frag} {mg : Str → Option Value} {base : Heap}
/-- sorted(model): the nodes in order -/
theorem sortModel {σ : L2.St} {H : Hp} {d : Addr} {l : List Bool} {ra ba : Nat → Addr} {Q : VK} (M : MAt H d l ra ba) (hl : l.length ≤ 2000) (q : ∀ p, H p = none → Q (.ref p) (upd H p (.lst ((pos true l).map fun i : Nat => .int i)))) : tNil σ H fun xs H2 => rSortD (.ref d :: xs) H2 Q := by
  show rSortD [.ref d] H Q
  refine ⟨d, _, (pos true l).map Int.ofNat, rfl, Rd.of M.d, ?_, ?_, fun zs p hp hs np => ?_⟩
  · rw [List.map_map, List.map_map]
    rfl
  · rw [List.length_map]
    exact Nat.le_trans (Nat.le_trans fr_le hl) (by decide)
  · have e : zs = (pos true l).map Int.ofNat := by
      refine List.Perm.eq_of_pairwise (le := fun a b => a ≤ b) (fun a b _ _ h1 h2 => Int.le_antisymm h1 h2) hs ?_ hp
      rw [List.pairwise_map]
      exact pos_inc.imp fun h => Int.ofNat_le.mpr (Nat.le_of_lt h)
    rw [e, List.map_map]
    exact q p np
def spLOwn (K : PySem.W.Frag) : Sp := fun vs H Q E => ∃ (d : Addr) (l : List Bool) (p : Nat), vs = [.ref d, .int p] ∧ okT l ∧ l.length ≤ 2000 ∧ ModAt H d l ∧ l[p]? = some true ∧ ∀ H' a, Xs (tK K) H H' → H' a = some (.lst ((own l p).map fun i : Nat => .int i)) → Q (.ref a) H'
theorem ok__law_own (T : Tx K mg) : OkN P w K mg base ("_law_own", none) 1 ["_law_model_here", "_law_node"] (spLOwn K) := by
  refine T.F__law_own.ok sc__law_own (fun vs H Q E h => ?_) (fun cdv A outer s H vs Q E hr h => ?_)
  · obtain ⟨d, l, p, rfl, _⟩ := h
    rfl
  · obtain ⟨d, l, p, rfl, W, hl, ⟨ra, ba, M⟩, hp, q⟩ := h
    refine ⟨_, (pss_one (ps_ret (pe_lc (own := [("_law_one", 2)]) rfl sc__law_own.nd (pi_listK (K := K) rfl (pe_callB (cr_sortedDict rfl) (by rfl) T.z_sorted b_sorted (pa_cons (pv 0) pa_nil))) (blkOk_by (N := N__law_own) (sc := defScope s__law_own) (by decide +kernel)) (fun _ _ _ _ _ => (pg_name (i := 2) sc__law_own.nd rfl (.inl rfl))) (fun _ _ _ _ _ => (pts_one (pt_chain op_le op_le (pv 1) (pv 2) (pe_dgetU hr.units (pe_dgetU hr.units (pv 0) (pv 1) (fun _ _ => rfl)) pe_str (fun _ _ => rfl))))) (fun _ _ _ _ _ => (pv 2))))), ?_⟩
    refine ⟨_, rfl, sortModel M hl fun a na => ?_⟩
    generalize hH : upd H a _ = H1
    have x1 : Xs (tK K) H H1 := newE hH na
    have ea := atE hH
    clear hH na
    have hpl : (pos true l).length ≤ 2000 := Nat.le_trans fr_le hl
    refine ⟨a, rfl, ⟨_, SqL.of ea⟩, fun D hD => lcFs (T := tK K) w_list hD (by rw [List.length_map]; omega) (fun H' x => SqL.of (x.lst ea)) (fun i => decide (p ≤ (pos true l).getD i 0 ∧ (pos true l).getD i 0 ≤ en l p)) (fun i => .int (((pos true l).getD i 0 : Nat) : Int)) ?_ ?_ fun H2 x2 e2 => ?_⟩
    · intro i x H' hi hy x2 Q q
      rw [List.getElem?_map] at hy
      obtain ⟨c, hc, rfl⟩ := Option.map_eq_some_iff.mp hy
      rw [getD_some hc] at q
      have M2 := (M.xt x1).xt x2
      refine ⟨_, rfl, _, rfl, _, _, rfl, rfl, _, rfl, ite2 (fun h => ?_) (fun h => ?_)⟩
      · have h := of_decide_eq_true h
        refine ⟨_, rfl, _, rfl, d, .ref (ra p), rfl, M2.g hp, ra p, .int (en l p : Nat), rfl, dgS (M2.r p hp) rec1_end, _, _, rfl, rfl, _, rfl, ?_⟩
        rw [show decide ((c : Int) ≤ ((en l p : Nat) : Int)) = decide (p ≤ c ∧ c ≤ en l p) from by
          rw [Bool.eq_iff_iff, decide_eq_true_eq, decide_eq_true_eq]
          omega]
        exact q H' .refl
      · simp only [decide_eq_true_eq] at h
        rw [decide_eq_false (show ¬ (p ≤ c ∧ c ≤ en l p) by omega)] at q
        exact ⟨_, rfl, q H' .refl⟩
    · intro i x H' hi hy _ x2 Q q
      rw [List.getElem?_map] at hy
      obtain ⟨c, hc, rfl⟩ := Option.map_eq_some_iff.mp hy
      rw [getD_some hc] at q
      exact ⟨_, rfl, q H' .refl⟩
    · rw [List.length_map, kept_list (pos true l) (fun c => decide (p ≤ c ∧ c ≤ en l p)) (fun c => .int (c : Nat)), ← own_eq W hp] at e2
      exact q H2 D (x1.trans x2) e2
end
end Tw

set_option maxHeartbeats 4000000
namespace Tw
open PySem PySem.Spec PyProof.Rows L2 LamX
section
variable {P : Program} {w : World} {K : PySem.W.Frag} {mg : Str → Option Value} {base : Heap}
theorem hp__law_word (T : Tx K mg) {Tt : List (Addr × Str)} : FnHp P w K mg base 1 (He.fAd K ("_law_word", none)) (fdOf K ("_law_word", none)) ["_law_e"] (spWord K Tt) := by
  refine fn_hp T.F__law_word sc__law_word (fun p vs H Q h => ?_) (fun cdv A outer s H vs Q p hot hr h => ?_)
  · obtain ⟨x, hx, rfl, _⟩ := h
    rfl
  · obtain ⟨x, hx, rfl, hz, hf, q⟩ := h
    have b := bad_of T.exb hx
    have hC := b.c
    obtain ⟨a, oe⟩ := p
    have hp : (a, oe) ∈ (L2H.cxH CX0 P w K mg base N__law_word "_law_word" (defScope s__law_word) (He.fAd K ("_law_word", none)) cdv A outer s H E0 (a, oe)).pn := List.mem_cons_self
    have hcx : L2H.HotC (L2H.cxH CX0 P w K mg base N__law_word "_law_word" (defScope s__law_word) (He.fAd K ("_law_word", none)) cdv A outer s H E0 (a, oe)) := ⟨_, hot, hp⟩
    refine ⟨_, (pss_cons (ps_set (i := 1) sc__law_word.nd rfl (.inl rfl) (pe_lst (pa_cons (pe_callB (call_isP hC hp hz hf) (by rfl) T.z_isinstance b_isinstance (pa_cons (pv 0) (pa_cons (pe_glob (v := .ref _) (by rfl) T.g_BadNumber rfl) pa_nil))) (pa_cons (pe_callB (call_isP hC hp hz hf) (by rfl) T.z_isinstance b_isinstance (pa_cons (pv 0) (pa_cons (pe_glob (v := .ref _) (by rfl) T.g_BadBits rfl) pa_nil))) (pa_cons (pe_callB (call_isP hC hp hz hf) (by rfl) T.z_isinstance b_isinstance (pa_cons (pv 0) (pa_cons (pe_glob (v := .ref _) (by rfl) T.g_BadPlace rfl) pa_nil))) pa_nil)))))
    (pss_cons (ps_set (i := 1) sc__law_word.nd rfl (.inl rfl) (pe_op op_cat (pv 1) (pe_lst (pa_cons (pe_callB (call_isP hC hp hz hf) (by rfl) T.z_isinstance b_isinstance (pa_cons (pv 0) (pa_cons (pe_glob (v := .ref _) (by rfl) T.g_BadText rfl) pa_nil))) pa_nil))))
    (pss_cons (ps_set (i := 1) sc__law_word.nd rfl (.inl rfl) (pe_op op_cat (pv 1) (pe_lst (pa_cons (pe_callB (call_isP hC hp hz hf) (by rfl) T.z_isinstance b_isinstance (pa_cons (pv 0) (pa_cons (pe_glob (v := .ref _) (by rfl) T.g_BadCode rfl) pa_nil))) (pa_cons (pe_callB (call_isP hC hp hz hf) (by rfl) T.z_isinstance b_isinstance (pa_cons (pv 0) (pa_cons (pe_glob (v := .ref _) (by rfl) T.g_BadTree rfl) pa_nil))) (pa_cons (pe_callB (call_isP hC hp hz hf) (by rfl) T.z_isinstance b_isinstance (pa_cons (pv 0) (pa_cons (pe_glob (v := .ref _) (by rfl) T.g_TooMany rfl) pa_nil))) pa_nil))))))
    (pss_cons (ps_if (PW.pt (pw_or (pt_cmpR op_ne (pe_callB (cr_sumH hcx) (by rfl) T.z_sum b_sum (pa_cons (pe_lcH (own := [("_law_flag", 2)]) hcx sc__law_word.nd (pv 1) (blkOk_by (N := N__law_word) (sc := defScope s__law_word) (by decide +kernel)) (fun _ _ _ _ _ => (pg_name (i := 2) sc__law_word.nd rfl (.inl rfl))) (fun _ _ _ _ _ => (pe_callTy call_int1 (by rfl) T.z_int b_int (pa_cons (pv 2) pa_nil)))) pa_nil)) pe_int (nomark _)) (pw_or1 (pt_not (pt_val (pe_callB (call_isP hC hp hz hf) (by rfl) T.z_isinstance b_isinstance (pa_cons (pv 0) (pa_cons (pe_bltn (v := .ty _) (by rfl) T.z_ValueError b_ValueError rfl) pa_nil))))))))
    (pss_one (ps_ret pe_str)) pss_nil)
    (pss_one (ps_ret (pe_ix (ix_listK (K := K) rfl) (pe_lst (pa_cons pe_str (pa_cons pe_str (pa_cons pe_str (pa_cons pe_str (pa_cons pe_str (pa_cons pe_str (pa_cons pe_str pa_nil)))))))) (pe_bmK (K := K) rfl F.plainAttrs_list F.slot_list_index F.type_list_index (mt_indexK (K := K) rfl) (pv 1) (pa_cons pe_bl pa_nil) (by rfl) (by rfl) (by rfl) (by rfl) (by rfl)) (fun _ _ => rfl)))))))), ?_⟩
    let c (y : Str) : V := .bl (decide (x = y))
    refine ⟨_, rfl, _, _, _, rfl, fun _ r => r, b.k "BadNumber" (by decide +kernel), _, rfl, _, _, _, rfl, fun _ r => r, b.k "BadBits" (by decide +kernel), _, rfl, _, _, _, rfl, fun _ r => r, b.k "BadPlace" (by decide +kernel), (by decide : 3 ≤ sizeLine), fun p1 n1 => ?_⟩
    have x1 : Xt Tt H (upd H p1 (.lst [c "BadNumber", c "BadBits", c "BadPlace"])) := .new n1
    have e1 : (upd H p1 (.lst [c "BadNumber", c "BadBits", c "BadPlace"])) p1 = some (.lst [c "BadNumber", c "BadBits", c "BadPlace"]) := upd_same ..
    generalize upd H p1 (.lst [c "BadNumber", c "BadBits", c "BadPlace"]) = H1 at x1 e1 ⊢
    refine ⟨_, rfl, _, rfl, _, _, _, rfl, fun _ r => r, b.k "BadText" (by decide +kernel), (by decide : 1 ≤ sizeLine), fun p2 n2 => ?_⟩
    have x2 : Xt Tt H (upd H1 p2 (.lst [c "BadText"])) := x1.trans (.new n2)
    refine ⟨_, _, _, _, rfl, rfl, (Xt.new (T := Tt) n2).lst e1, upd_same .., (by decide : 4 ≤ sizeLine), fun p3 n3 => ?_⟩
    have x3 := x2.trans (.new (T := Tt) (o := .lst [c "BadNumber", c "BadBits", c "BadPlace", c "BadText"]) n3)
    have e3 : (upd (upd H1 p2 (.lst [c "BadText"])) p3 (.lst [c "BadNumber", c "BadBits", c "BadPlace", c "BadText"])) p3 = some (.lst [c "BadNumber", c "BadBits", c "BadPlace", c "BadText"]) := upd_same ..
    show tSeq _ _ _ _ (upd (upd H1 p2 (.lst [c "BadText"])) p3 (.lst [c "BadNumber", c "BadBits", c "BadPlace", c "BadText"]))
    generalize upd (upd H1 p2 (.lst [c "BadText"])) p3 (.lst [c "BadNumber", c "BadBits", c "BadPlace", c "BadText"]) = H3 at x3 e3 ⊢
    refine ⟨_, rfl, _, rfl, _, _, _, rfl, fun _ r => r, b.k "BadCode" (by decide +kernel), _, rfl, _, _, _, rfl, fun _ r => r, b.k "BadTree" (by decide +kernel), _, rfl, _, _, _, rfl, fun _ r => r, b.k "TooMany" (by decide +kernel), (by decide : 3 ≤ sizeLine), fun p4 n4 => ?_⟩
    refine ⟨_, _, _, _, rfl, rfl, (Xt.new (T := Tt) n4).lst e3, upd_same .., (by decide : 7 ≤ sizeLine), fun p5 n5 => ?_⟩
    have x5 := (x3.trans (.new (T := Tt) (o := .lst [c "BadCode", c "BadTree", c "TooMany"]) n4)).trans (.new (T := Tt) (o := .lst (seven.map c)) n5)
    have e5 : (upd (upd H3 p4 (.lst [c "BadCode", c "BadTree", c "TooMany"])) p5 (.lst (seven.map c))) p5 = some (.lst (seven.map c)) := upd_same ..
    show tSeq _ _ _ _ (upd (upd H3 p4 (.lst [c "BadCode", c "BadTree", c "TooMany"])) p5 (.lst (seven.map c)))
    generalize upd (upd H3 p4 (.lst [c "BadCode", c "BadTree", c "TooMany"])) p5 (.lst (seven.map c)) = H5 at x5 e5 ⊢
    refine ⟨_, rfl, _, _, rfl, SqL.of e5, fun D hD => ⟨fun i H' => Xt Tt H H' ∧ H' p5 = some (.lst (seven.map c)) ∧ H' D = some (.lst ((seven.take i).map fun y => .int (if x = y then 1 else 0))), ?_, ?_, ?_, ?_⟩⟩
    · exact ⟨x5.trans (.new hD), (Xt.new (T := Tt) hD).lst e5, upd_same ..⟩
    · exact fun i H' h => SqL.of h.2.1
    · intro i v H' hv h
      refine ⟨rfl, ?_⟩
      obtain ⟨x6, h6, h7⟩ := h
      rw [List.getElem?_map] at hv
      obtain ⟨y, hy, rfl⟩ := Option.map_eq_some_iff.mp hv
      refine ⟨_, rfl, .inr ⟨_, rfl, _, h7, ?_, x6.mut (x5.nw (.of hD)) h7, ?_, ?_⟩⟩
      · rw [List.length_map, List.length_take]
        exact Nat.lt_of_le_of_lt (Nat.min_le_right _ _) (by decide)
      · rw [upd_ne (fun z => ?_)]
        · exact h6
        · rw [← z] at h7
          rw [h6] at h7
          have h8 := congrArg (fun o : Option HO => match o with | some (.lst (V.bl _ :: _)) => true | _ => false) h7
          cases i with
          | zero => cases h8
          | succ i => cases h8
      · rw [upd_same, List.take_add_one, hy, List.map_append]
        by_cases e : x = y
        · rw [decide_eq_true e]
          simp [e]
        · rw [decide_eq_false e]
          simp [e]
    · rintro H' ⟨x6, h6, h7⟩
      refine ⟨_, seven.map fun y => if x = y then 1 else 0, rfl, SqL.of ?_, ?_⟩
      · rw [h7]
        show some (HO.lst _) = some (HO.lst _)
        rw [List.map_map]
        rfl
      · have hs : (seven.map fun y => if x = y then (1 : Int) else 0).sum = 1 := by
          simp only [seven, List.mem_cons, List.not_mem_nil, or_false] at hx
          rcases hx with rfl | rfl | rfl | rfl | rfl | rfl | rfl <;> decide +kernel
        rw [hs]
        refine ⟨rfl, _, rfl, ite2 (fun z => absurd z (by decide)) fun _ => ?_⟩
        refine ⟨_, rfl, _, _, _, rfl, fun _ r => r, b.v, _, rfl, iteF ?_⟩
        refine ⟨by decide, fun p6 n6 => ?_⟩
        have h5 : (upd H' p6 (.lst (seven.map .str))) p5 = some (.lst (seven.map c)) := (Xt.new (T := Tt) n6).lst h6
        obtain ⟨j, hj, hl⟩ := List.mem_iff_getElem.mp hx
        have sq : SqL K (upd H' p6 (.lst (seven.map .str))) p5 (seven.map c) := SqL.of h5
        refine ⟨_, rfl, .inl ⟨rfl, _, sq⟩, p5, _, .bl true, j, .bl true, rfl, rfl, sq, rfl, ?_, ?_, rfl, ?_, ?_⟩
        · rw [List.all_eq_true]
          intro v hv
          obtain ⟨y, _, rfl⟩ := List.mem_map.mp hv
          rfl
        · rw [List.getElem?_map, List.getElem?_eq_getElem hj, hl]
          show some (V.bl (decide (x = x))) = _
          rw [decide_eq_true rfl]
        · intro m z hm hz
          rw [List.getElem?_map] at hz
          obtain ⟨y, hy, rfl⟩ := Option.map_eq_some_iff.mp hz
          have ne : x ≠ y := fun e => by
            have hm2 : m < seven.length := by omega
            rw [List.getElem?_eq_getElem hm2] at hy
            have hj3 : ∀ i (h : i < seven.length), ∀ k (h2 : k < seven.length), i < k → seven[i] ≠ seven[k] := by decide +kernel
            exact hj3 m hm2 j hj hm (by rw [hl, e]; exact Option.some.inj hy)
          show (decide (x = y) == true) = false
          rw [decide_eq_false ne]
          rfl
        · refine ⟨p6, seven.map .str, j, .str x, rfl, rfl, SqL.of (upd_same ..), atI_nat ?_, q _ (x6.trans (.new n6))⟩
          rw [List.getElem?_map, List.getElem?_eq_getElem hj, hl]
          rfl
end
def tTold (K : PySem.W.Frag) (t : XK → TE) : TE := fun σ H Q => Tabs (tK K) H ∧ ∀ H1, ExtN H H1 → Tabs (tK K) H1 → t (EW K (tK K) Q) σ H1 Q
section
variable {X : Cx} {K : PySem.W.Frag} {mg : Str → Option Value} {base : Heap}
theorem pe_told (T : Tx K mg) {at_ : He.Defn} {k : Nat} {params : Arguments} {body : Expr} {scope : Scope} {t : XK → TE} {p lpos pos : Pos}
    (TB : TabB base mg (He.cT K at_).1 (He.cT K at_).2) (hK : X.K = K) (hmg : X.mg = mg) (hbs : X.base = base) (hr : Room (k + 4) X.A) (hg : Gl X "_law_told") (hcode : X.env.code = .ref (He.cT K at_).1) (hmT : ((He.cT K at_).2, X.env.qual ++ "<lambda>") ∈ tK K)
    (hu : ∀ p ∈ tK K, p.1 = (He.cT K at_).2 → p.2 = X.env.qual ++ "<lambda>") (L : LamS X.env.scope scope) (hdef : defaultsOf params X.env = ([], []))
    (hbind : ∀ (q : Str) (cl : List (Str × Addr)) (pm cv ctv : Value), bindArgs (PySem.W.kla_fn "<lambda>" q params body scope cl pm cv ctv) ⟨[], []⟩ = pure [])
    (hbody : ∀ (A : Around) (outer : List Env) (s : Shared) (H : Hp) (E : XK) (f c' : Addr), Room (k + 2) (A.deeper (lamEnv X scope s.heap.objs.size f c')) → (∀ σ, PassesAt (L2N.CX X.prog X.w) (lamN X A outer s H E scope f c') σ E) → PE (lamN X A outer s H E scope f c') body (t E)) :
    PE X (.Call (.Name "_law_told" p) [.Lambda params body scope lpos] [] pos) (tTold K t) := by
  subst hK hmg hbs
  exact told_gen hg T.g__law_told T.F__law_told T.B__law_told sc__law_told rfl rfl rfl rfl T.g_TerseError T.g__law_word T.F__law_word.kp T.B__law_word (hp__law_word T) T.exb TB hcode hmT hu hr L hdef hbind fun A outer s H E f c' hr2 => hbody A outer s H E f c' hr2 fun σ => psL σ
end
end Tw

set_option maxHeartbeats 4000000
namespace Tw
open PySem PySem.Spec PyProof.Rows L2 LamX
section
variable {P : Program} {w : World} {K : PySem.W.Frag} {mg : Str → Option Value} {base : Heap}
/-! ### a wood with signs -/
def MarkAt (K : PySem.W.Frag) (H : Hp) (m : Addr) (l : List Bool) (s : List Nat) : Prop := s.length = l.length / 2 ∧ ∃ u t dm : Addr, H m = some (.ins (He.ga K "Marked") dm [("ground", .ref u), ("marks", .ref t)]) ∧ WoodAt K H u l ∧ TextAt K H t s
theorem markSeen {a b : V} : (∀ n, b ≠ V.int n) → ∀ fs' n, ([("ground", a), ("marks", b)] : List (Str × V)) ≠ fs' ++ sn n := fun hb fs' n h => by
  have h2 := congrArg List.getLast? h
  unfold sn at h2
  rw [List.getLast?_concat] at h2
  have h3 : (some (("marks" : Str), b) : Option (Str × V)) = some (("seen" : Str), V.int n) := h2
  injection h3 with h3
  exact hb n (congrArg Prod.snd h3)
theorem markSeen2 {u t : Addr} : ∀ fs' n, ([("ground", .ref u), ("marks", .ref t)] : List (Str × V)) ≠ fs' ++ sn n := markSeen fun n h => by cases h
theorem groundSeen {u : Addr} : ∀ fs' n, ([("ground", .ref u)] : List (Str × V)) ≠ fs' ++ sn n := fun fs' n h => by
  have h2 := congrArg List.getLast? h
  unfold sn at h2
  rw [List.getLast?_concat] at h2
  have h3 : (some (("ground" : Str), V.ref u) : Option (Str × V)) = some (("seen" : Str), V.int n) := h2
  injection h3 with h3
  have h4 := congrArg Prod.snd h3
  cases h4
theorem MarkAt.xt {H H' : Hp} {m : Addr} {l : List Bool} {s : List Nat} {T : List (Addr × Str)} (h : MarkAt K H m l s) (x : Xt T H H') : MarkAt K H' m l s := by
  obtain ⟨hs, u, t, dm, em, hw, ht⟩ := h
  exact ⟨hs, u, t, dm, x.ins em markSeen2, hw.xt x, ht.xt x⟩
theorem RowAt.updm {H : Hp} {r m c dx : Addr} {l : List Bool} {n : Int} {fs : List (Str × V)} {o : HO} (h : RowAt K H r l n) (em : H m = some (.ins c dx fs)) (hf : fs.length < 3) : RowAt K (upd H m o) r l n := by
  have hrm : r ≠ m := fun z => by
    obtain ⟨_, d, e⟩ := h
    rw [z, em] at e
    injection e with e
    injection e with _ _ e
    rw [e, List.length_append] at hf
    exact absurd hf (by unfold rowF; simp; omega)
  exact ⟨h.1, h.2.choose, by rw [upd_ne hrm]; exact h.2.choose_spec⟩
theorem WoodAt.updm {H : Hp} {u m c dx : Addr} {l : List Bool} {fs : List (Str × V)} {o : HO} (h : WoodAt K H u l) (em : H m = some (.ins c dx fs)) (hf : fs.length < 3) : WoodAt K (upd H m o) u l := by
  obtain ⟨W, hl, r, dw, n, ew, er⟩ := h
  have hum : u ≠ m := fun z => by
    rw [z, em] at ew
    injection ew with ew
    injection ew with _ _ ew
    rw [ew] at hf
    exact absurd hf (by unfold woodF; simp)
  exact ⟨W, hl, r, dw, n, by rw [upd_ne hum]; exact ew, er.updm em hf⟩
theorem TextAt.updm {H : Hp} {t m c dx : Addr} {s : List Nat} {fs : List (Str × V)} {o : HO} (h : TextAt K H t s) (em : H m = some (.ins c dx fs)) (hf : fs.length < 3) : TextAt K (upd H m o) t s := by
  obtain ⟨g, dt, R, rs, et, eR, hl, hr⟩ := h
  have htm : t ≠ m := fun z => by
    rw [z, em] at et
    injection et with et
    injection et with _ _ et
    rw [et] at hf
    simp at hf
  have hRm : R ≠ m := fun z => by
    rw [z, em] at eR
    cases eR
  exact ⟨g, dt, R, rs, by rw [upd_ne htm]; exact et, by rw [upd_ne hRm]; exact eR, hl, fun k a h => by
    obtain ⟨n, hn⟩ := hr k a h
    exact ⟨n, hn.updm em hf⟩⟩
def spMark (K : PySem.W.Frag) : Sp := fun vs H Q E => ∃ (H0 : Hp) (m dx : Addr) (z : Str) (t : List Nat), vs = [.ref m, .str z, .str (S t)] ∧ Xt (tK K) H0 H ∧ Nw H0 m ∧ H m = some (.ins (He.ga K "Marked") dx []) ∧ z.length ≤ 100000 ∧ t.length ≤ 10000 ∧
  (∀ l, z = sb l → okT l → l.length ≤ 2000 → (goodT t ∧ t.length = l.length / 2) → ∀ H', Xt (tK K) H0 H' → MarkAt K H' m l t → Q .non H') ∧
  ((∀ l, z = sb l → okT l → 2000 < l.length) → ∀ H', Xt (tK K) H0 H' → E (.ref (He.ga K "BadBits")) none H') ∧
  (∀ l, z = sb l → okT l → l.length ≤ 2000 → ¬ (goodT t ∧ t.length = l.length / 2) → ∀ H', Xt (tK K) H0 H' → E (.ref (He.ga K "BadText")) none H')
theorem ok_Marked_init (T : Tx K mg) : OkN P w K mg base ("Marked", some "__init__") 7 ["self", "bits", "text"] (spMark K) := by
  refine T.F_Marked_init.ok sc_Marked_init (fun vs H Q E h => ?_) (fun cdv A outer s H vs Q E hr h => ?_)
  · obtain ⟨H0, m, dx, z, t, rfl, _⟩ := h
    rfl
  · obtain ⟨H0, m, dx, z, t, rfl, x0, nm, e, hz, ht, q1, q2, q3⟩ := h
    refine ⟨_, (pss_cons (ps_fld (pv 0) (pe_make (dvs := []) T.mk_Wood (ok_Wood_init T) (hr.mono (by decide)) (by rfl) T.g_Wood T.B_Wood_init .nil psP (pa_cons (pv 1) pa_nil)) rfl)
    (pss_cons (ps_expr (pe_callS (ok_need_text T) (hr.mono (by decide)) (by rfl) T.g_need_text T.F_need_text.kp T.B_need_text psE (pa_cons (pv 2) pa_nil)))
    (pss_cons (ps_if (pt_cmpR op_ne (pe_callB call_len_str (by rfl) T.z_len b_len (pa_cons (pv 2) pa_nil)) (pe_meth0 (dvs := []) (pe_fldK (K := K) rfl (pv 0) (by rfl)) T.k_Wood T.M_Wood_size (ok_Wood_size T) (hr.mono (by decide)) T.B_Wood_size .nil psP) (nomark _))
    (pss_one (ps_rz T.x_BadText rfl (by decide))) pss_nil)
    (pss_one (ps_fld (pv 0) (pe_make (dvs := []) T.mk_Text (ok_Text_init T) (hr.mono (by decide)) (by rfl) T.g_Text T.B_Text_init .nil psP (pa_cons (pv 2) pa_nil)) rfl))))), ?_⟩
    refine ⟨_, rfl, fun u du hun hdn hne => ?_⟩
    have xm : Xt (tK K) H (upd (upd H du (.own u)) u (.ins (He.ga K "Wood") du [])) := (Xt.new hdn).trans (.new (by rw [upd_ne (Ne.symm hne)]; exact hun))
    refine ⟨H, u, du, z, rfl, xm, .of hun, upd_same .., hz, fun l el W hl H2 x2 hw => ⟨rfl, ?_⟩, fun hb H2 x2 => q2 hb H2 (x0.trans x2)⟩
    subst el
    have q1 := q1 l rfl W hl
    have q3 := q3 l rfl W hl
    have e2 := x2.ins e noIns
    have x2 := x0.trans x2
    refine ⟨_, rfl, m, _, dx, _, rfl, e2, T.k_Marked, T.n_Marked_ground, by exact (by decide : 0 < 1000), ?_⟩
    generalize hH : upd H2 m _ = H3
    have x3 : Xt (tK K) H0 H3 := by rw [← hH]; exact x2.put nm (.ins e2)
    have e3 := atE hH
    have hw : WoodAt K H3 u l := by rw [← hH]; exact hw.updm e2 (by decide)
    clear hH e2
    refine ⟨_, rfl, t, rfl, ht, fun g H4 x4 => ?_, fun g H4 x4 => q3 (fun h => g h.1) H4 (x3.trans x4.up)⟩
    have x4 := x4.up
    have em := x4.ins e3 groundSeen
    have hw := hw.xt x4
    have x4 := x3.trans x4
    have hw0 := hw
    obtain ⟨_, _, r, dw, n, ew, er⟩ := hw
    have ltz : (S t).length = t.length := S_len t
    refine ⟨_, rfl, _, rfl, by rw [ltz]; exact tfits (by omega), _, rfl, m, _, dx, _, _, rfl, em, T.k_Marked, T.n_Marked_ground, rfl, u, _, _, rfl, ew, rfl, u, l, rfl, hw0, rfl, _, rfl, ite2 (fun h => ?_) (fun h => ?_)⟩
    · refine q3 (fun hh => ?_) H4 x4
      rw [ltz, hh.2, decide_eq_true rfl] at h
      cases h
    · have hlen : t.length = l.length / 2 := by
        by_cases hh : t.length = l.length / 2
        · exact hh
        · rw [ltz, decide_eq_false fun z => hh (by injection z with z; omega)] at h
          exact absurd rfl h
      refine ⟨_, rfl, fun v dv hvn hdn hne => ?_⟩
      have xm : Xt (tK K) H4 (upd (upd H4 dv (.own v)) v (.ins (He.ga K "Text") dv [])) := (Xt.new hdn).trans (.new (by rw [upd_ne (Ne.symm hne)]; exact hvn))
      refine ⟨H4, v, dv, t, rfl, xm, .of hvn, upd_same .., ht, fun _ H5 x5 hv => ⟨rfl, ?_⟩, fun hb => absurd g hb⟩
      have em := x5.ins em groundSeen
      have hw := hw0.xt x5
      have x5 := x4.trans x5
      refine ⟨_, rfl, m, _, dx, _, rfl, em, T.k_Marked, T.n_Marked_marks, by exact (by decide : 1 < 1000), ?_⟩
      generalize hH : upd H5 m _ = H6
      have x6 : Xt (tK K) H0 H6 := by rw [← hH]; exact x5.put nm (.ins em)
      exact q1 ⟨g, hlen⟩ H6 x6 ⟨hlen, u, v, dx, atE hH, by rw [← hH]; exact hw.updm em (by exact (by decide : 1 < 3)), by rw [← hH]; exact hv.updm em (by exact (by decide : 1 < 3))⟩
def spMWood (K : PySem.W.Frag) : Sp := fun vs H Q E => ∃ (m : Addr) (l : List Bool) (s : List Nat), vs = [.ref m] ∧ MarkAt K H m l s ∧ ∀ u, WoodAt K H u l → Q (.ref u) H
theorem ok_Marked_wood (T : Tx K mg) : OkN P w K mg base ("Marked", some "wood") 1 ["self"] (spMWood K) := by
  refine T.F_Marked_wood.ok sc_Marked_wood (fun vs H Q E h => ?_) (fun cdv A outer s H vs Q E hr h => ?_)
  · obtain ⟨m, l, s, rfl, _⟩ := h
    rfl
  · obtain ⟨m, l, s, rfl, ⟨hs, u, t, dm, em, hw, ht⟩, q⟩ := h
    refine ⟨_, (pss_one (ps_ret (pe_fldK (K := K) rfl (pv 0) (by rfl)))), ?_⟩
    exact ⟨_, rfl, m, _, dm, _, _, rfl, em, T.k_Marked, T.n_Marked_ground, rfl, q u hw⟩
def spMSign (K : PySem.W.Frag) : Sp := fun vs H Q E => ∃ (m : Addr) (l : List Bool) (s : List Nat) (p : Int), vs = [.ref m, .int p] ∧ MarkAt K H m l s ∧ (∀ j : Nat, p = j → l[j]? = some true → ∀ H', Xt (tK K) H H' → Q (.str (sg (sgm l s j))) H') ∧
  ((∀ j : Nat, p = j → ¬ l[j]? = some true) → ∀ H', Xt (tK K) H H' → E (.ref (He.ga K "BadPlace")) none H')
theorem ok_Marked_sign (T : Tx K mg) : OkN P w K mg base ("Marked", some "sign") 12 ["self", "node"] (spMSign K) := by
  refine T.F_Marked_sign.ok sc_Marked_sign (fun vs H Q E h => ?_) (fun cdv A outer s H vs Q E hr h => ?_)
  · obtain ⟨m, l, s, p, rfl, _⟩ := h
    rfl
  · obtain ⟨m, l, s, p, rfl, ⟨hs, u, t, dm, em, hw, ht⟩, q1, q2⟩ := h
    refine ⟨_, (pss_one (ps_ret (pe_meth (dvs := []) (pe_fldK (K := K) rfl (pv 0) (by rfl)) T.k_Text T.M_Text_sign (ok_Text_sign T) (hr.mono (by decide)) T.B_Text_sign .nil psP (pa_cons (pe_meth (dvs := []) (pe_fldK (K := K) rfl (pv 0) (by rfl)) T.k_Wood T.M_Wood_number (ok_Wood_number T) (hr.mono (by decide)) T.B_Wood_number .nil psP (pa_cons (pv 1) pa_nil)) pa_nil)))), ?_⟩
    have ⟨W, hl, r, dw, n, ew, er⟩ := hw
    have ⟨g, dt, R, rs, et, _⟩ := ht
    refine ⟨_, rfl, m, _, dm, _, _, rfl, em, T.k_Marked, T.n_Marked_marks, rfl, t, _, _, rfl, et, rfl, _, rfl, m, _, dm, _, _, rfl, em, T.k_Marked, T.n_Marked_ground, rfl, u, _, _, rfl, ew, rfl, _, rfl, u, l, p, rfl, hw, fun j ej hj H1 x1 => ?_, fun hb H1 x1 => q2 hb H1 x1⟩
    refine ⟨t, s, _, rfl, ht.xt x1, fun k c ek hc H2 x2 => ?_, fun hb => ?_⟩
    · have e := sgm_at W hs hj
      obtain rfl : k = cn true l j := by omega
      rw [hc] at e
      injection e with e
      rw [e]
      exact q1 j ej hj H2 (x1.trans x2)
    · have := cn_lt_half W hj
      exfalso
      omega
def spChBy (K : PySem.W.Frag) : Sp := fun vs H Q E => ∃ (m : Addr) (l : List Bool) (s : List Nat) (p : Int) (z : Str), vs = [.ref m, .int p, .str z] ∧ MarkAt K H m l s ∧ z.length ≤ 100000 ∧
  (∀ j c : Nat, p = j → l[j]? = some true → z = sg c → okSg c = true → ∀ H' a, Xt (tK K) H H' → Nw H a → H' a = some (.lst ((chBy l s j c).map fun i : Nat => .int i)) → Q (.ref a) H') ∧
  ((∀ j : Nat, p = j → ¬ l[j]? = some true) → ∀ H', Xt (tK K) H H' → E (.ref (He.ga K "BadPlace")) none H') ∧
  (∀ j : Nat, p = j → l[j]? = some true → (∀ c, z = sg c → okSg c = false) → ∀ H', Xt (tK K) H H' → E (.ref (He.ga K "BadText")) none H')
theorem ok_Marked_children_by (T : Tx K mg) : OkN P w K mg base ("Marked", some "children_by") 13 ["self", "node", "sign"] (spChBy K) := by
  refine T.F_Marked_children_by.ok sc_Marked_children_by (fun vs H Q E h => ?_) (fun cdv A outer s H vs Q E hr h => ?_)
  · obtain ⟨m, l, s, p, z, rfl, _⟩ := h
    rfl
  · obtain ⟨m, l, s, p, z, rfl, hm, hz, q1, q2, q3⟩ := h
    have ⟨hs, u, t, dm, em, hw, ht⟩ := hm
    refine ⟨_, (pss_cons (ps_set (i := 3) sc_Marked_children_by.nd rfl (.inl rfl) (pe_meth (dvs := []) (pe_fldK (K := K) rfl (pv 0) (by rfl)) T.k_Wood T.M_Wood_children (ok_Wood_children T) (hr.mono (by decide)) T.B_Wood_children .nil psP (pa_cons (pv 1) pa_nil)))
    (pss_cons (ps_expr (pe_meth (dvs := []) (pe_fldK (K := K) rfl (pv 0) (by rfl)) T.k_Text T.M_Text_need_sign (ok_Text_need_sign T) (hr.mono (by decide)) T.B_Text_need_sign .nil psP (pa_cons (pv 2) pa_nil)))
    (pss_one (ps_ret (pe_lc (own := [("one", 4)]) rfl sc_Marked_children_by.nd (pi_listK (K := K) rfl (pv 3)) (blkOk_by (N := N_Marked_children_by) (sc := defScope s_Marked_children_by) (by decide +kernel)) (fun _ _ _ _ _ => (pg_name (i := 4) sc_Marked_children_by.nd rfl (.inl rfl))) (fun _ _ _ _ _ => (pts_one (pt_cmpR op_eq (pe_meth (dvs := []) (pv 0) T.k_Marked T.M_Marked_sign (ok_Marked_sign T) (hr.mono (by decide)) T.B_Marked_sign .nil psP0 (pa_cons (pv 4) pa_nil)) (pv 2) (nomark _)))) (fun _ _ _ _ _ => (pv 4))))))), ?_⟩
    have ⟨W, hl, r, dw, n, ew, er⟩ := hw
    refine ⟨_, rfl, m, _, dm, _, _, rfl, em, T.k_Marked, T.n_Marked_ground, rfl, u, _, _, rfl, ew, rfl, _, rfl, u, l, p, rfl, hw, fun j ej hj H1 a1 x1 n1 e1 => ?_, fun hb H1 x1 => q2 hb H1 x1⟩
    have em := x1.ins em markSeen2
    have ht := ht.xt x1
    have ⟨g, dt, R, rs, et, _⟩ := ht
    refine ⟨_, rfl, m, _, dm, _, _, rfl, em, T.k_Marked, T.n_Marked_marks, rfl, t, _, _, rfl, et, rfl, _, rfl, t, z, rfl, hz, fun c hc ok => ?_, fun bad => q3 j ej hj bad H1 x1⟩
    have lb : ((below l j).map fun i : Nat => V.int i).length = (below l j).length := List.length_map ..
    have lb2 : (below l j).length ≤ 2000 := by
      have : (below l j).length ≤ (List.range l.length).length := List.length_filter_le ..
      rw [List.length_range] at this
      omega
    have at_ : ∀ {i : Nat} {x : V}, ((below l j).map fun i : Nat => V.int i)[i]? = some x → x = .int ((below l j).getD i 0 : Nat) ∧ l[(below l j).getD i 0]? = some true := fun {i x} h => by
      rw [List.getElem?_map] at h
      obtain ⟨y, hy, rfl⟩ := Option.map_eq_some_iff.mp h
      have e : (below l j).getD i 0 = y := by rw [List.getD_eq_getElem?_getD, hy]; rfl
      rw [e]
      exact ⟨rfl, (isCh_iff.mp (mem_below.mp (List.mem_of_getElem? hy))).1⟩
    refine ⟨_, rfl, a1, rfl, ⟨_, SqL.of e1⟩, fun D hD => lcF (T := tK K) w_list hD (by rw [lb]; omega) (fun _ x => x.seq (SqL.of e1)) (fun i => sgm l s ((below l j).getD i 0) == c) (fun i => .int ((below l j).getD i 0 : Nat)) ?_ ?_ fun H2 x2 e2 => ?_⟩
    · intro i x H' hi hy x2 Q q
      obtain ⟨rfl, ho⟩ := at_ hy
      have em := x2.ins em markSeen2
      refine ⟨_, rfl, m, _, _, rfl, em, rfl, _, rfl, m, l, s, _, rfl, (hm.xt x1).xt x2, fun k ek hk H3 x3 => ?_, fun hb => absurd ho (hb _ rfl)⟩
      obtain rfl : (below l j).getD i 0 = k := by omega
      have e5 : decide (V.str (sg (sgm l s ((below l j).getD i 0))) = V.str z) = (sgm l s ((below l j).getD i 0) == c) := by
        rw [hc, Bool.eq_iff_iff, decide_eq_true_eq, beq_iff_eq]
        constructor
        · intro h
          injection h with h
          exact sg_inj h
        · intro h
          rw [h]
      rw [← e5] at q
      exact ⟨_, rfl, rfl, _, rfl, q _ x3⟩
    · intro i x H' hi hy hf x2 Q q
      obtain ⟨rfl, ho⟩ := at_ hy
      exact ⟨_, rfl, q _ .refl⟩
    · rw [lb] at e2
      have := kept_gen (0 : Nat) (fun x => sgm l s x == c) (fun x : Nat => V.int x) (below l j)
      rw [this] at e2
      exact q1 j c ej hj hc ok H2 D (x1.trans x2) (x1.nw (.of hD)) e2
def spChild1 (K : PySem.W.Frag) : Sp := fun vs H Q E => ∃ (m : Addr) (l : List Bool) (s : List Nat) (p : Int) (z : Str), vs = [.ref m, .int p, .str z] ∧ MarkAt K H m l s ∧ z.length ≤ 100000 ∧
  (∀ j c : Nat, p = j → l[j]? = some true → z = sg c → okSg c = true → ∀ H', Xt (tK K) H H' → Q (on (chBy l s j c)[0]?) H') ∧
  ((∀ j : Nat, p = j → ¬ l[j]? = some true) → ∀ H', Xt (tK K) H H' → E (.ref (He.ga K "BadPlace")) none H') ∧
  (∀ j : Nat, p = j → l[j]? = some true → (∀ c, z = sg c → okSg c = false) → ∀ H', Xt (tK K) H H' → E (.ref (He.ga K "BadText")) none H')
theorem ok_Marked_child_by (T : Tx K mg) : OkN P w K mg base ("Marked", some "child_by") 14 ["self", "node", "sign"] (spChild1 K) := by
  refine T.F_Marked_child_by.ok sc_Marked_child_by (fun vs H Q E h => ?_) (fun cdv A outer s H vs Q E hr h => ?_)
  · obtain ⟨m, l, s, p, z, rfl, _⟩ := h
    rfl
  · obtain ⟨m, l, s, p, z, rfl, hm, hz, q1, q2, q3⟩ := h
    have ⟨hs, u, t, dm, em, hw, ht⟩ := hm
    refine ⟨_, (pss_cons (ps_set (i := 3) sc_Marked_child_by.nd rfl (.inl rfl) (pe_meth (dvs := []) (pv 0) T.k_Marked T.M_Marked_children_by (ok_Marked_children_by T) (hr.mono (by decide)) T.B_Marked_children_by .nil psP (pa_cons (pv 1) (pa_cons (pv 2) pa_nil))))
    (pss_one (ps_ret (pe_ifExp (pt_cmpR (op_neDK (K := K) rfl hr.units) (pv 3) (pe_lst pa_nil) (nomark _)) (pe_ix (ix_listK (K := K) rfl) (pv 3) pe_int (fun _ _ => rfl)) pe_non)))), ?_⟩
    refine ⟨_, rfl, m, _, _, rfl, em, rfl, _, rfl, _, rfl, m, l, s, p, z, rfl, hm, hz, fun j c ej hj hc ok H1 a1 x1 n1 e1 => ?_, q2, q3⟩
    have q1 := q1 j c ej hj hc ok
    refine ⟨_, rfl, by exact (by decide : 0 ≤ sizeLine), fun p2 n2 => ?_⟩
    generalize hH : upd H1 p2 _ = H2
    have y2 := newE (lo := True) (T := tK K) hH n2
    have e2 : H2 p2 = some (.lst (([] : List Int).map V.int)) := atE hH
    clear hH
    have e1 := y2.lst e1
    have x2 := x1.trans y2
    generalize chBy l s j c = L at e1 q1
    refine neD_of (d := .list ((L.map Int.ofNat).map .int)) (dp_nats e1) (dp_ints (SqL.of e2)) (sh_ints (n := 63)) (sh_ints (n := 63)) ?_
    rw [eqv_ints]
    cases L with
    | nil => exact ⟨_, rfl, iteF (q1 _ x2)⟩
    | cons y L =>
      rw [decide_eq_false (fun h => by cases h)]
      exact ⟨_, rfl, iteT ⟨_, rfl, a1, _, 0, .int y, rfl, rfl, SqL.of e1, atI_nat (j := 0) rfl, q1 _ x2⟩⟩
end
end Tw

set_option maxHeartbeats 4000000
namespace Tw
open PySem PySem.Spec PyProof.Rows L2 LamX
section
variable {P : Program} {w : World} {K : PySem.W.Frag} {mg : Str → Option Value} {base : Heap}
theorem cutS_drop (l : List Nat) (j : Nat) : cutS (S l) (some (j : Int)) none = S (l.drop j) := by
  unfold cutS
  rw [HT.sIx_nat, S_len]
  show (⟨_⟩ : Str) = ⟨_⟩
  congr 2
  show (l.drop (min j l.length)).take (l.length - min j l.length) = _
  by_cases hj : j ≤ l.length
  · rw [Nat.min_eq_left hj, List.take_of_length_le (by rw [List.length_drop]; omega)]
  · rw [List.drop_eq_nil_of_le (by omega : l.length ≤ min j l.length), List.drop_eq_nil_of_le (by omega : l.length ≤ j)]
    simp
theorem sum_le_mul {b : Nat} : ∀ {L : List Nat}, (∀ x ∈ L, x ≤ b) → L.sum ≤ L.length * b
  | [], _ => Nat.zero_le _
  | x :: L, h => by
    have h1 := h x List.mem_cons_self
    have h2 := sum_le_mul fun y hy => h y (List.mem_cons_of_mem _ hy)
    rw [List.sum_cons, List.length_cons, Nat.succ_mul]
    omega
theorem via2 {P R : Addr → Hp → Prop} {G : Prop} (main : (∀ p H', P p H' → R p H') → G) (rest : ∀ p H', P p H' → R p H') : G := main rest
theorem wy_up {l : List Bool} {s : List Nat} {c : Nat} : wy l s c = ((up l c).elim [] fun b => wy l s b) ++ [sgm l s c] := by
  cases hu : up l c with
  | none =>
    have h0 : stk l c = [] := List.getLast?_eq_none_iff.mp hu
    unfold wy
    rw [h0]
    rfl
  | some b =>
    unfold wy
    rw [up_stk hu, List.map_append]
    rfl
theorem wy_len {l : List Bool} {s : List Nat} {c : Nat} (W : okT l) (hc : l[c]? = some true) : (wy l s c).length ≤ 201 := by
  unfold wy
  rw [List.length_map, List.length_append]
  have h3 := stk_len W (Nat.le_of_lt (len_of hc))
  have h4 := W.dqT (Nat.le_of_lt (len_of hc))
  simp
  omega
theorem nodesOf_len {l : List Bool} {s t : List Nat} (hl : l.length ≤ 2000) : (nodesOf l s t).length ≤ 2000 := Nat.le_trans (List.length_filter_le ..) (Nat.le_trans fr_le hl)
theorem chBy_sub {l : List Bool} {s : List Nat} {j c : Nat} (hl : l.length ≤ 2000) : (chBy l s j c).length ≤ 2000 := by
  refine Nat.le_trans (List.length_filter_le ..) ?_
  have : (below l j).length ≤ (List.range l.length).length := List.length_filter_le ..
  rw [List.length_range] at this
  omega
def spPath (K : PySem.W.Frag) : Sp := fun vs H Q E => ∃ (m : Addr) (l : List Bool) (s t : List Nat), vs = [.ref m, .str (S t)] ∧ MarkAt K H m l s ∧ t.length ≤ 10000 ∧
  (goodT t ∧ t ≠ [] → ∀ H' a, Xt (tK K) H H' → H' a = some (.lst ((nodesOf l s t).map fun i : Nat => .int i)) → Q (.ref a) H') ∧
  (¬ (goodT t ∧ t ≠ []) → ∀ H', Xt (tK K) H H' → E (.ref (He.ga K "BadText")) none H')
theorem ok_Marked_path (T : Tx K mg) : OkN P w K mg base ("Marked", some "path") 15 ["self", "text"] (spPath K) := by
  refine T.F_Marked_path.ok sc_Marked_path (fun vs H Q E h => ?_) (fun cdv A outer s H vs Q E hr h => ?_)
  · obtain ⟨m, l, s, t, rfl, _⟩ := h
    rfl
  · obtain ⟨m, l, s, t, rfl, hm, ht, q1, q2⟩ := h
    have hm00 := hm
    refine ⟨_, (pss_cons (ps_expr (pe_callS (ok_need_text T) (hr.mono (by decide)) (by rfl) T.g_need_text T.F_need_text.kp T.B_need_text psE (pa_cons (pv 1) pa_nil)))
    (pss_cons (ps_if (pt_cmpR op_eq (pv 1) pe_str (nomark _))
    (pss_one (ps_rz T.x_BadText rfl (by decide))) pss_nil)
    (pss_cons (ps_set (i := 2) sc_Marked_path.nd rfl (.inl rfl) (pe_ifExp (pt_cmpR op_eq (pe_meth (dvs := []) (pv 0) T.k_Marked T.M_Marked_sign (ok_Marked_sign T) (hr.mono (by decide)) T.B_Marked_sign .nil psP (pa_cons pe_int pa_nil)) (pe_ix ix_str (pv 1) pe_int (fun _ _ => rfl)) (nomark _)) (pe_lst (pa_cons pe_int pa_nil)) (pe_lst pa_nil)))
    (pss_cons (ps_for (passes_of rfl) rfl (pi_str (pe_slice sl_str (pv 1) (po_some pe_int) po_none)) (pg_name (i := 3) sc_Marked_path.nd rfl (.inl rfl))
    (pss_cons (ps_set (i := 4) sc_Marked_path.nd rfl (.inl rfl) (pe_lst pa_nil))
    (pss_cons (ps_for (passes_of rfl) rfl (pi_listK (K := K) rfl (pv 2)) (pg_name (i := 5) sc_Marked_path.nd rfl (.inl rfl))
    (pss_one (ps_expr (pe_bmK (K := K) rfl F.plainAttrs_list F.slot_list_extend F.type_list_extend mt_extend (pv 4) (pa_cons (pe_meth (dvs := []) (pv 0) T.k_Marked T.M_Marked_children_by (ok_Marked_children_by T) (hr.mono (by decide)) T.B_Marked_children_by .nil psP (pa_cons (pv 5) (pa_cons (pv 3) pa_nil))) pa_nil) (by rfl) (by rfl) (by rfl) (by rfl) (by rfl)))))
    (pss_one (ps_set (i := 2) sc_Marked_path.nd rfl (.inl rfl) (pv 4))))))
    (pss_one (ps_ret (pv 2))))))), ?_⟩
    refine ⟨_, rfl, t, rfl, ht, fun g H1 x1 => ?_, fun g H1 x1 => q2 (fun h => g h.1) H1 x1.up⟩
    have x1 := x1.up
    refine ⟨_, rfl, rfl, _, rfl, ite2 (fun h => ?_) (fun h => ?_)⟩
    · refine q2 (fun z => z.2 ?_) H1 x1
      have h := of_decide_eq_true h
      injection h with h
      have h : S t = S [] := h.trans (by decide +kernel)
      exact S_inj h
    have t0 : t ≠ [] := fun e => h (decide_eq_true (by rw [e]; exact congrArg V.str (by decide +kernel)))
    have q1 := q1 ⟨g, t0⟩
    have hm := hm.xt x1
    have ⟨hs, u, tt, dm, em, hw, htx⟩ := hm
    have ⟨W, hl, _⟩ := hw
    have ltz : (S t).length = t.length := S_len t
    obtain ⟨c0, tl, rfl⟩ : ∃ c0 tl, t = c0 :: tl := by
      cases t with
      | nil => exact absurd rfl t0
      | cons c tl => exact ⟨c, tl, rfl⟩
    have hc0 : (c0 :: tl)[0]? = some c0 := rfl
    refine ⟨_, rfl, m, _, _, rfl, em, rfl, m, l, s, 0, rfl, hm, fun j ej hj H2 x2 => ?_, fun hb => absurd W.first (hb 0 rfl)⟩
    obtain rfl : j = 0 := by omega
    have x2a := x1.trans x2
    have hm := hm.xt x2
    refine ⟨_, rfl, S (c0 :: tl), _, c0, rfl, rfl, by rw [ltz]; exact tfits (by omega), atI_nat (j := 0) hc0, rfl, _, rfl, ?_⟩
    apply via2 (P := fun p H3 => Xt (tK K) H2 H3 ∧ H3 p = some (.lst ((nodesOf l s [c0]).map fun i : Nat => .int i)))
    · intro k
      refine ite2 (fun h => ?_) (fun h => ?_)
      · have h := of_decide_eq_true h
        injection h with h
        have h : sgm l s 0 = c0 := sg_inj h
        refine ⟨by exact (by decide : 1 ≤ sizeLine), fun p np => ?_⟩
        exact k p _ ⟨.new np, by rw [upd_same, path_first W, if_pos h]; rfl⟩
      · have h : ¬ sgm l s 0 = c0 := fun z => h (decide_eq_true (by rw [z]; rfl))
        refine ⟨by exact (by decide : 0 ≤ sizeLine), fun p np => ?_⟩
        exact k p _ ⟨.new np, by rw [upd_same, path_first W, if_neg h]; rfl⟩
    rintro p H3 ⟨x3, ep⟩
    have hm := hm.xt x3
    have x3 := x2a.trans x3
    have ltl : (S tl).length = tl.length := S_len tl
    have htl : tl.length + 1 ≤ 512 := g.1
    have ecut : V.str (cutS (S (c0 :: tl)) (some (1 : Int)) none) = .str (S tl) := congrArg V.str (cutS_drop (c0 :: tl) 1)
    refine ⟨_, rfl, _, rfl, S (c0 :: tl), rfl, by rw [ltz]; exact tfits (by omega), S tl, ecut, for_it w_str (fun i σ H' => Xt (tK K) H H' ∧ ∃ p t3 t4 t5, H' p = some (.lst ((nodesOf l s (c0 :: tl.take i)).map fun i : Nat => .int i)) ∧ σ = [some (.ref m), some (.str (S (c0 :: tl))), some (.ref p), t3, t4, t5])
      ⟨x3, p, _, _, _, ep, rfl⟩ (fun _ _ _ _ _ => trivial) ?_ ?_⟩
    · intro i x σ Ha Hb hi hp hy
      obtain ⟨xa, p, t3, t4, t5, ep, rfl⟩ := hp
      obtain ⟨rfl, c, hc, rfl⟩ := hy
      have hi : i < tl.length := (List.getElem?_eq_some_iff.mp hc).1
      have okc : okSg c = true := g.2 c (List.mem_cons_of_mem _ (List.mem_of_getElem? hc))
      have hlen := nodesOf_len (s := s) (t := c0 :: tl.take i) hl
      have hones : ∀ x ∈ nodesOf l s (c0 :: tl.take i), l[x]? = some true := fun x hx => (mem_nodesOf.mp hx).1
      have estep := path_step W (s := s) (t := c0 :: tl.take i) (c := c) (by simp)
      have etk : c0 :: tl.take (i + 1) = (c0 :: tl.take i) ++ [c] := by rw [List.take_succ, hc]; rfl
      rw [etk, ← estep]
      generalize nodesOf l s (c0 :: tl.take i) = L at ep hlen hones ⊢
      refine ⟨by exact (by decide : 0 ≤ sizeLine), fun p4 n4 => ?_⟩
      have w4 : Nw Hb p4 := .of n4
      generalize hH : upd Hb p4 _ = Hc
      have y4 := newE (lo := True) (T := tK K) hH n4
      have e4 : Hc p4 = some (.lst (((L.take 0).flatMap fun j => chBy l s j c).map fun i : Nat => V.int i)) := atE hH
      clear hH n4
      refine ⟨_, rfl, p, rfl, ⟨_, SqL.of (y4.lst ep)⟩, for_it w_list (fun k σ H' => Xt (tK K) Hb H' ∧ H' p4 = some (.lst (((L.take k).flatMap fun j => chBy l s j c).map fun i : Nat => V.int i)) ∧ ∃ t5, σ = [some (.ref m), some (.str (S (c0 :: tl))), some (.ref p), some (.str (sg c)), some (.ref p4), t5])
        ⟨y4, e4, _, rfl⟩ (fun _ _ _ _ h => SqL.of (h.1.lst ep)) ?_ ?_⟩
      · intro k x σ Hd He2 hk hp hy
        obtain ⟨xd, e4, t5, rfl⟩ := hp
        obtain ⟨rfl, hx⟩ := hy
        rw [List.getElem?_map] at hx
        obtain ⟨j, hj, rfl⟩ := Option.map_eq_some_iff.mp hx
        have hj1 := hones j (List.mem_of_getElem? hj)
        have hmd := (hm00.xt xa).xt xd
        have ⟨_, u, tt, dm, em, _⟩ := hmd
        have hlk : ((L.take k).flatMap fun j => chBy l s j c).length ≤ 4000000 := by
          rw [List.length_flatMap]
          have : ∀ x ∈ (L.take k).map fun j => (chBy l s j c).length, x ≤ 2000 := fun x hx => by
            obtain ⟨y, _, rfl⟩ := List.mem_map.mp hx
            exact chBy_sub hl
          have h2 := sum_le_mul this
          rw [List.length_map, List.length_take] at h2
          exact Nat.le_trans h2 (Nat.mul_le_mul (show min k L.length ≤ 2000 by omega) (Nat.le_refl 2000))
        have hlc := chBy_sub (s := s) (j := j) (c := c) hl
        refine ⟨_, rfl, .inl ⟨rfl, _, SqL.of e4⟩, _, rfl, m, _, _, rfl, em, rfl, _, rfl, _, rfl, m, l, s, _, _, rfl, hmd, by rw [show (sg c).length = 1 from S_len [c]]; decide, fun j' c' ej _ ec _ Hf a6 x6 n6 e6 => ?_, fun hb => absurd hj1 (hb j rfl), fun _ _ _ bad => absurd okc (by rw [bad c rfl]; decide)⟩
        obtain rfl := sg_inj ec
        obtain rfl : j = j' := by omega
        have e4 := x6.lst e4
        refine ⟨p4, a6, _, _, rfl, rfl, e4, e6, ?_, ?_⟩
        · rw [List.length_map, List.length_map]
          exact Nat.le_trans (show _ ≤ 4002000 by omega) (by decide)
        refine ⟨(xd.trans x6).mut w4 e4, ?_, _, rfl⟩
        rw [upd_same, List.take_succ, hj, List.flatMap_append, List.map_append]
        show _ = some (HO.lst (_ ++ List.map _ (List.flatMap _ [j])))
        rw [List.flatMap_singleton]
      · intro σ Hd hp
        obtain ⟨xd, e4, t5, rfl⟩ := hp
        rw [List.length_map, List.take_length] at e4
        exact ⟨_, rfl, xa.trans xd, p4, _, _, _, e4, rfl⟩
    · intro σ Ha hp
      obtain ⟨xa, p, t3, t4, t5, ep, rfl⟩ := hp
      have ep : Ha p = some (.lst ((nodesOf l s (c0 :: tl.take tl.length)).map fun i : Nat => .int i)) := ep
      rw [List.take_length] at ep
      exact ⟨_, rfl, q1 Ha p xa ep⟩
end
end Tw

set_option maxHeartbeats 4000000
namespace Tw
open PySem PySem.Spec PyProof.Rows L2 LamX
section
variable {P : Program} {w : World} {K : PySem.W.Frag} {mg : Str → Option Value} {base : Heap}
theorem cn_mono2 {b : Bool} {l : List Bool} {p q : Nat} (h : p ≤ q) : cn b l p ≤ cn b l q := ((List.range_sublist.mpr h).filter _).length_le
def spMCount (K : PySem.W.Frag) : Sp := fun vs H Q E => ∃ (m : Addr) (l : List Bool) (s : List Nat) (p : Int) (z : Str), vs = [.ref m, .int p, .str z] ∧ MarkAt K H m l s ∧ z.length ≤ 100000 ∧
  (∀ j c : Nat, p = j → l[j]? = some true → z = sg c → okSg c = true → ∀ H', Xt (tK K) H H' → Q (.int ((((own l j).map (sgm l s)).count c : Nat) : Int)) H') ∧
  ((∀ j : Nat, p = j → ¬ l[j]? = some true) → ∀ H', Xt (tK K) H H' → E (.ref (He.ga K "BadPlace")) none H') ∧
  (∀ j : Nat, p = j → l[j]? = some true → (∀ c, z = sg c → okSg c = false) → ∀ H', Xt (tK K) H H' → E (.ref (He.ga K "BadText")) none H')
theorem ok_Marked_count (T : Tx K mg) : OkN P w K mg base ("Marked", some "count") 13 ["self", "node", "sign"] (spMCount K) := by
  refine T.F_Marked_count.ok sc_Marked_count (fun vs H Q E h => ?_) (fun cdv A outer s H vs Q E hr h => ?_)
  · obtain ⟨m, l, s, p, z, rfl, _⟩ := h
    rfl
  · obtain ⟨m, l, s, p, z, rfl, hm, hz, q1, q2, q3⟩ := h
    have ⟨hs, u, t, dm, em, hw, ht⟩ := hm
    refine ⟨_, (pss_cons (ps_set (i := 3) sc_Marked_count.nd rfl (.inl rfl) (pe_meth (dvs := []) (pe_fldK (K := K) rfl (pv 0) (by rfl)) T.k_Wood T.M_Wood_number (ok_Wood_number T) (hr.mono (by decide)) T.B_Wood_number .nil psP (pa_cons (pv 1) pa_nil)))
    (pss_cons (ps_set (i := 4) sc_Marked_count.nd rfl (.inl rfl) (pe_op op_add (pv 3) (pe_meth (dvs := []) (pe_fldK (K := K) rfl (pv 0) (by rfl)) T.k_Wood T.M_Wood_many (ok_Wood_many T) (hr.mono (by decide)) T.B_Wood_many .nil psP (pa_cons (pv 1) pa_nil))))
    (pss_one (ps_ret (pe_op op_sub (pe_meth (dvs := []) (pe_fldK (K := K) rfl (pv 0) (by rfl)) T.k_Text T.M_Text_count (ok_Text_count T) (hr.mono (by decide)) T.B_Text_count .nil psP (pa_cons (pv 2) (pa_cons (pv 4) pa_nil))) (pe_meth (dvs := []) (pe_fldK (K := K) rfl (pv 0) (by rfl)) T.k_Text T.M_Text_count (ok_Text_count T) (hr.mono (by decide)) T.B_Text_count .nil psP (pa_cons (pv 2) (pa_cons (pv 3) pa_nil)))))))), ?_⟩
    have ⟨W, hl, r, dw, n, ew, er⟩ := hw
    refine ⟨_, rfl, m, _, dm, _, _, rfl, em, T.k_Marked, T.n_Marked_ground, rfl, u, _, _, rfl, ew, rfl, _, rfl, u, l, p, rfl, hw, fun j ej hj H1 x1 => ?_, fun hb H1 x1 => q2 hb H1 x1⟩
    have hw := hw.xt x1
    have ⟨_, _, r, dw, n, ew, er⟩ := hw
    have em := x1.ins em markSeen2
    refine ⟨_, rfl, _, rfl, m, _, dm, _, _, rfl, em, T.k_Marked, T.n_Marked_ground, rfl, u, _, _, rfl, ew, rfl, _, rfl, u, l, p, rfl, hw, fun j2 ej2 hj2 H2 x2 => ?_, fun hb => absurd hj (hb j ej)⟩
    obtain rfl : j = j2 := by omega
    have ht := (ht.xt x1).xt x2
    have em := x2.ins em markSeen2
    have x2 := x1.trans x2
    have ⟨g, dt, R, rs, et, _⟩ := ht
    have hcm := cn_many W hj
    have hle : cn true l (en l j + 1) ≤ cn true l l.length := cn_mono2 (ends_en W hj).le
    have hlen := W.len
    have hin : cn true l j + many l j ≤ s.length := by omega
    refine ⟨_, _, rfl, rfl, _, rfl, m, _, dm, _, _, rfl, em, T.k_Marked, T.n_Marked_marks, rfl, t, _, _, rfl, et, rfl, _, rfl, _, rfl, t, s, z, _, rfl, ht, hz, ?_⟩
    by_cases hok : ∃ c, z = sg c ∧ okSg c = true
    · obtain ⟨c, hc, ok⟩ := hok
      refine .inl ⟨c, cn true l j + many l j, hc, ok, by omega, hin, fun H3 x3 => ?_⟩
      have ht := ht.xt x3
      have em := x3.ins em markSeen2
      have ⟨g, dt, R, rs, et, _⟩ := ht
      refine ⟨_, rfl, m, _, dm, _, _, rfl, em, T.k_Marked, T.n_Marked_marks, rfl, t, _, _, rfl, et, rfl, _, rfl, _, rfl, t, s, z, _, rfl, ht, hz, .inl ⟨c, cn true l j, hc, ok, rfl, by omega, fun H4 x4 => ⟨_, _, rfl, rfl, ?_⟩⟩⟩
      have := q1 j c ej hj hc ok H4 (x2.trans (x3.trans x4))
      have e := count_own (c := c) W hs hj
      rw [show ((((own l j).map (sgm l s)).count c : Nat) : Int) = (((s.take (cn true l j + many l j)).count c : Nat) : Int) - (((s.take (cn true l j)).count c : Nat) : Int) by omega] at this
      exact this
    · have bad : ∀ c, z = sg c → okSg c = false := fun c hc => by
        cases h : okSg c with
        | false => rfl
        | true => exact absurd ⟨c, hc, h⟩ hok
      exact .inr (.inr ⟨⟨by omega, by omega⟩, bad, q3 j ej hj bad H2 x2⟩)
def roomM (l : List Bool) (s : List Nat) : Int := ((l.length + 2 * (l.length / 32 * nd l.length) : Nat) : Int) + ((7 * (ltr s).length + wdt s * (s.length + s.length / 32 * nd s.length) : Nat) : Int)
def spMRoom (K : PySem.W.Frag) : Sp := fun vs H Q E => ∃ (m : Addr) (l : List Bool) (s : List Nat), vs = [.ref m] ∧ MarkAt K H m l s ∧ ∀ H', Xt (tK K) H H' → Q (.int (roomM l s)) H'
theorem ok_Marked_room (T : Tx K mg) : OkN P w K mg base ("Marked", some "room") 3 ["self"] (spMRoom K) := by
  refine T.F_Marked_room.ok sc_Marked_room (fun vs H Q E h => ?_) (fun cdv A outer s H vs Q E hr h => ?_)
  · obtain ⟨m, l, s, rfl, _⟩ := h
    rfl
  · obtain ⟨m, l, s, rfl, ⟨hs, u, t, dm, em, hw, ht⟩, q⟩ := h
    refine ⟨_, (pss_one (ps_ret (pe_op op_add (pe_meth0 (dvs := []) (pe_fldK (K := K) rfl (pv 0) (by rfl)) T.k_Wood T.M_Wood_room (ok_Wood_room T) (hr.mono (by decide)) T.B_Wood_room .nil psP) (pe_meth0 (dvs := []) (pe_fldK (K := K) rfl (pv 0) (by rfl)) T.k_Text T.M_Text_room (ok_Text_room T) (hr.mono (by decide)) T.B_Text_room .nil psP)))), ?_⟩
    have ⟨W, hl, r, dw, n, ew, er⟩ := hw
    have ⟨g, dt, R, rs, et, _⟩ := ht
    exact ⟨_, rfl, m, _, dm, _, _, rfl, em, T.k_Marked, T.n_Marked_ground, rfl, u, _, _, rfl, ew, rfl, u, l, rfl, hw, _, rfl, m, _, dm, _, _, rfl, em, T.k_Marked, T.n_Marked_marks, rfl, t, _, _, rfl, et, rfl, t, s, rfl, ht, fun H1 x1 => ⟨_, _, rfl, rfl, q H1 x1⟩⟩
theorem e_five : (Str.ofString "ab c~" : Str) = S [97, 98, 32, 99, 126] := by decide +kernel
theorem join_sg (L : List Nat) : Txt.join (S []) (L.map sg) = S L := by rw [show L.map sg = (L.map fun c => [c]).map S by rw [List.map_map]; rfl, join_S, flat1]
def sgOf (m : Int) (j : Nat) : Nat := [97, 98, 32, 99, 126].getD (dr m (j : Int) % (1 + m % 5)).toNat 97
theorem sgOf_ok (m : Int) (j : Nat) : okSg (sgOf m j) = true := by
  have h : ∀ k : Nat, okSg ([97, 98, 32, 99, 126].getD k 97) = true := fun k => by
    match k with
    | 0 | 1 | 2 | 3 | 4 => rfl
    | k + 5 => rfl
  exact h _
def spLSigns (K : PySem.W.Frag) : Sp := fun vs H Q E => ∃ (m : Int) (n : Nat), vs = [.int m, .int n] ∧ n ≤ 100 ∧ ∀ H' s, Xt (tK K) H H' → s.length = n → (∀ c ∈ s, okSg c = true) → Q (.str (S s)) H'
theorem ok__law_signs (T : Tx K mg) : OkN P w K mg base ("_law_signs", none) 2 ["_law_more", "_law_many"] (spLSigns K) := by
  refine T.F__law_signs.ok sc__law_signs (fun vs H Q E h => ?_) (fun cdv A outer s H vs Q E hr h => ?_)
  · obtain ⟨m, n, rfl, _⟩ := h
    rfl
  · obtain ⟨m, n, rfl, hn, q⟩ := h
    refine ⟨_, (pss_one (ps_ret (pe_joinK (K := K) rfl pe_str (pe_lc (own := [("_law_j", 2)]) rfl sc__law_signs.nd (pi_range1 (by rfl) T.z_range (pa_cons (pv 1) pa_nil)) (blkOk_by (N := N__law_signs) (sc := defScope s__law_signs) (by decide +kernel)) (fun _ _ _ _ _ => (pg_name (i := 2) sc__law_signs.nd rfl (.inl rfl))) (fun _ _ _ _ _ => pts_nil) (fun _ _ _ _ _ => (pe_ix ix_str pe_str (pe_op op_mod (pe_callS (ok__law_drawn T) (hr.mono (by decide)) (by rfl) T.g__law_drawn T.F__law_drawn.kp T.B__law_drawn ps0 (pa_cons (pv 0) (pa_cons (pv 2) pa_nil))) (pe_op op_add pe_int (pe_op op_mod (pv 0) pe_int))) (fun _ _ => rfl)))) (by rfl) (by rfl) (by rfl)))), ?_⟩
    refine ⟨⟨_, rfl⟩, _, rfl, _, rfl, by omega, by omega, fun D hD => lcP (T := tK K) w_range hD (by omega) (fun _ _ => trivial) (fun j => .str (sg (sgOf m j))) ?_ fun H2 x2 e2 => ?_⟩
    · intro i x H' hi hy x1 Q q
      rw [show (0 : Int) + (i : Int) = (i : Int) by omega] at hy
      subst hy
      have r1 := Int.emod_nonneg m (show (5 : Int) ≠ 0 by decide)
      have r2 := Int.emod_lt_of_pos m (show (0 : Int) < 5 by decide)
      have r3 := Int.emod_nonneg (dr m (i : Int)) (show 1 + m % 5 ≠ 0 by omega)
      have r4 := Int.emod_lt_of_pos (dr m (i : Int)) (show 0 < 1 + m % 5 by omega)
      refine ⟨_, rfl, _, rfl, _, _, rfl, by omega, by omega, _, rfl, _, _, rfl, rfl, (show (0 : Int) < 5 by decide), _, _, rfl, rfl, _, _, rfl, rfl, (show 0 < 1 + m % 5 by omega), S [97, 98, 32, 99, 126], _, sgOf m i, congrArg V.str e_five, rfl, by rw [S_len]; decide, ?_, q _ .refl⟩
      obtain ⟨k, hk, hk2⟩ : ∃ k : Nat, dr m (i : Int) % (1 + m % 5) = k ∧ k < 5 := ⟨(dr m (i : Int) % (1 + m % 5)).toNat, by omega, by omega⟩
      unfold sgOf
      rw [hk]
      refine atI_nat ?_
      show ([97, 98, 32, 99, 126] : List Nat)[k]? = _
      rw [Int.toNat_natCast, List.getD_eq_getElem?_getD, List.getElem?_eq_getElem (show k < ([97, 98, 32, 99, 126] : List Nat).length from hk2)]
      rfl
    · have e2 : H2 D = some (.lst ((((List.range n).map (sgOf m)).map sg).map V.str)) := by
        rw [e2, List.map_map, List.map_map]
        rfl
      refine ⟨S [], D, ((List.range n).map (sgOf m)).map sg, rfl, rfl, .inl (SqL.of e2), ?_, ?_⟩
      · have h1 : (((List.range n).map (sgOf m)).map sg).map Str.length = (List.range n).map fun _ => 1 := by
          rw [List.map_map, List.map_map]
          exact List.map_congr_left fun c _ => S_len [sgOf m c]
        rw [h1, List.length_map, List.length_map, List.map_const', List.sum_replicate_nat, List.length_range, S_len]
        exact Nat.le_trans (show _ ≤ 128 by simp; omega) (by decide)
      · rw [join_sg]
        exact q H2 _ x2 (by rw [List.length_map, List.length_range]) fun c hc => by
          obtain ⟨j, _, rfl⟩ := List.mem_map.mp hc
          exact sgOf_ok m j
def spWay (K : PySem.W.Frag) : Sp := fun vs H Q E => ∃ (d : Addr) (l : List Bool) (s : List Nat) (p : Nat), vs = [.ref d, .str (S s), .int p] ∧ okT l ∧ l.length ≤ 2000 ∧ ModAt H d l ∧ s.length = l.length / 2 ∧ l[p]? = some true ∧ Q (.str (S (wy l s p))) H
theorem ok__law_way (T : Tx K mg) : OkN P w K mg base ("_law_way", none) 1 ["_law_model_here", "_law_signs_here", "_law_node"] (spWay K) := by
  refine T.F__law_way.ok sc__law_way (fun vs H Q E h => ?_) (fun cdv A outer s H vs Q E hr h => ?_)
  · obtain ⟨d, l, s, p, rfl, _⟩ := h
    rfl
  · obtain ⟨d, l, s, p, rfl, W, hl, ⟨ra, ba, M⟩, hs, hp, q⟩ := h
    refine ⟨_, (pss_cons (ps_set (i := 3) sc__law_way.nd rfl (.inl rfl) pe_str)
    (pss_cons (ps_while (passes_of rfl) (pt_cmpR op_notN (pv 2) pe_non (nomark _))
    (pss_cons (ps_set (i := 3) sc__law_way.nd rfl (.inl rfl) (pe_op op_add_str (pe_ix ix_str (pv 1) (pe_dgetU hr.units (pe_dgetU hr.units (pv 0) (pv 2) (fun _ _ => rfl)) pe_str (fun _ _ => rfl)) (fun _ _ => rfl)) (pv 3)))
    (pss_one (ps_set (i := 2) sc__law_way.nd rfl (.inl rfl) (pe_dgetU hr.units (pe_dgetU hr.units (pv 0) (pv 2) (fun _ _ => rfl)) pe_str (fun _ _ => rfl))))))
    (pss_one (ps_ret (pv 3))))), ?_⟩
    refine ⟨fun m σ H' => H' = H ∧ ∃ (o : Option Nat) (f : List Nat), (∀ c, o = some c → l[c]? = some true) ∧ m = (o.elim 0 fun c => c + 1) ∧ wy l s p = (o.elim [] fun c => wy l s c) ++ f ∧ σ = [some (.ref d), some (.str (S s)), some (on o), some (.str (S f))], ⟨_, rfl, some p, [], fun c z => by cases z; exact hp, rfl, (List.append_nil _).symm, rfl⟩, fun m σ H' hW => ?_⟩
    obtain ⟨rfl, o, f, ho, rfl, hw, rfl⟩ := hW
    have lsz : (S s).length = s.length := S_len s
    cases o with
    | none =>
      have hw : wy l s p = f := hw
      refine ⟨_, rfl, rfl, _, rfl, iteF ⟨_, rfl, ?_⟩⟩
      rw [← hw]
      exact q
    | some c =>
      have hc := ho c rfl
      have hw : wy l s p = wy l s c ++ f := hw
      have hfl : f.length ≤ 201 := by
        have h1 := congrArg List.length hw
        rw [List.length_append] at h1
        have := wy_len (s := s) W hp
        omega
      refine ⟨_, rfl, rfl, _, rfl, iteT ⟨fun σ' H'' => ∃ m', m' < c + 1 ∧ H'' = H' ∧ ∃ (o : Option Nat) (f : List Nat), (∀ c, o = some c → l[c]? = some true) ∧ m' = (o.elim 0 fun c => c + 1) ∧ wy l s p = (o.elim [] fun c => wy l s c) ++ f ∧ σ' = [some (.ref d), some (.str (S s)), some (on o), some (.str (S f))], fun _ _ h => h, ?_⟩⟩
      refine ⟨_, rfl, _, rfl, _, rfl, d, .ref (ra c), rfl, M.g hc, ra c, .int (cn true l c : Nat), rfl, dgS (M.r c hc) rec1_number, S s, _, sgm l s c, rfl, rfl, by rw [lsz]; exact tfits (by omega), atI_nat (sgm_at W hs hc), _, rfl, _, _, rfl, rfl, ?_, gv (v := .str (S (sgm l s c :: f))) (congrArg V.str (S_app [_] f)) ?_⟩
      · show (S [sgm l s c]).length + (S f).length ≤ _
        rw [S_len, S_len]
        exact tfits (by simp; omega)
      refine ⟨_, rfl, _, rfl, d, .ref (ra c), rfl, M.g hc, ra c, on (up l c), rfl, dgS (M.r c hc) rec1_up, _, ?_, rfl, up l c, sgm l s c :: f, fun b hb => up_one hb, rfl, ?_, rfl⟩
      · cases hu : up l c with
        | none => exact Nat.succ_pos _
        | some b => exact Nat.succ_lt_succ (stk_mem (up_mem hu)).1
      · rw [hw, wy_up, List.append_assoc]
        rfl
end
end Tw

set_option maxHeartbeats 4000000
namespace Tw
open PySem PySem.Spec PyProof.Rows L2 LamX
section
variable {P : Program} {w : World} {K : PySem.W.Frag} {mg : Str → Option Value} {base : Heap}
theorem e_lf : (Str.ofString "\n" : Str) = S [10] := by decide +kernel
theorem e_a : (Str.ofString "a" : Str) = S [97] := by decide +kernel
theorem e_alf : (Str.ofString "a\n" : Str) = S [97, 10] := by decide +kernel
theorem e_ab : (Str.ofString "ab" : Str) = S [97, 98] := by decide +kernel
theorem e_no : (Str.ofString "" : Str) = S [] := by decide +kernel
theorem not_lf {l : List Nat} (h : 10 ∈ l) : ¬ goodT l := fun g => by
  have := g.2 10 h
  cases this
theorem no_sg {l : List Nat} (h : l.length ≠ 1) : ∀ c, S l = sg c → okSg c = false := fun c e => by
  have : l = [c] := S_inj e
  rw [this] at h
  exact absurd rfl h
theorem lf_bad : ∀ c, (Str.ofString "\n" : Str) = sg c → okSg c = false := fun c e => by
  rw [← sg_inj (e_lf.symm.trans e)]
  decide
def spRefusedM (K : PySem.W.Frag) : Sp := fun vs H Q E => ∃ (m : Addr) (l : List Bool) (ss : List Nat) (e : Nat), vs = [.ref m, .str (sb l), .str (S ss), .int e] ∧ MarkAt K H m l ss ∧ l[e]? = some false ∧ l.length ≤ 200 ∧ okT l ∧ Tabs (tK K) H ∧ ∀ H', Xt (tK K) H H' → Q (.bl true) H'
theorem ok__law_refused_right (T : Tx K mg) (TB : TabB base mg (He.cT K ("_law_refused_right", none)).1 (He.cT K ("_law_refused_right", none)).2) : OkN P w K mg base ("_law_refused_right", none) 20 ["_law_marked", "_law_bits", "_law_signs_here", "_law_end"] (spRefusedM K) := by
  refine okC T.F__law_refused_right sc__law_refused_right (fun vs H Q E h => ?_) (fun A outer s H vs Q E hr h => ?_)
  · obtain ⟨m, l, ss, e, rfl, _⟩ := h
    rfl
  · obtain ⟨m, l, ss, e, rfl, hm, he, hl, W, hT, q⟩ := h
    refine ⟨_, (pss_cons (ps_set (i := 4) sc__law_refused_right.nd rfl (.inr rfl) (pe_callB call_len_str (by rfl) T.z_len b_len (pa_cons (pv 2) pa_nil)))
    (pss_cons (ps_set (i := 5) sc__law_refused_right.nd rfl (.inl rfl) (pe_lst (pa_cons (pe_told T TB rfl rfl rfl hr (by rfl) (by rfl) (by exact T.tk__law_refused_right) (by exact T.tu__law_refused_right) (lamS_by (by rfl)) (by rfl) (by intros; rfl) (fun A outer s H E f c' hr2 hx2 => (pe_meth (dvs := []) (pv 0) T.k_Marked T.M_Marked_sign (ok_Marked_sign T) (hr2.mono (by decide)) T.B_Marked_sign .nil (fun pins σ => hx2 σ pins) (pa_cons (pv 3) pa_nil)))) pa_nil)))
    (pss_cons (ps_set (i := 5) sc__law_refused_right.nd rfl (.inl rfl) (pe_op op_cat (pv 5) (pe_lst (pa_cons (pe_told T TB rfl rfl rfl hr (by rfl) (by rfl) (by exact T.tk__law_refused_right) (by exact T.tu__law_refused_right) (lamS_by (by rfl)) (by rfl) (by intros; rfl) (fun A outer s H E f c' hr2 hx2 => (pe_meth (dvs := []) (pv 0) T.k_Marked T.M_Marked_children_by (ok_Marked_children_by T) (hr2.mono (by decide)) T.B_Marked_children_by .nil (fun pins σ => hx2 σ pins) (pa_cons (pv 3) (pa_cons pe_str pa_nil))))) pa_nil))))
    (pss_cons (ps_set (i := 5) sc__law_refused_right.nd rfl (.inl rfl) (pe_op op_cat (pv 5) (pe_lst (pa_cons (pe_told T TB rfl rfl rfl hr (by rfl) (by rfl) (by exact T.tk__law_refused_right) (by exact T.tu__law_refused_right) (lamS_by (by rfl)) (by rfl) (by intros; rfl) (fun A outer s H E f c' hr2 hx2 => (pe_meth (dvs := []) (pv 0) T.k_Marked T.M_Marked_child_by (ok_Marked_child_by T) (hr2.mono (by decide)) T.B_Marked_child_by .nil (fun pins σ => hx2 σ pins) (pa_cons (pe_un un_neg pe_int) (pa_cons pe_str pa_nil))))) pa_nil))))
    (pss_cons (ps_if (pt_cmpR (op_neDK (K := K) rfl hr.units) (pe_op op_cat (pv 5) (pe_lst (pa_cons (pe_told T TB rfl rfl rfl hr (by rfl) (by rfl) (by exact T.tk__law_refused_right) (by exact T.tu__law_refused_right) (lamS_by (by rfl)) (by rfl) (by intros; rfl) (fun A outer s H E f c' hr2 hx2 => (pe_meth (dvs := []) (pv 0) T.k_Marked T.M_Marked_count (ok_Marked_count T) (hr2.mono (by decide)) T.B_Marked_count .nil (fun pins σ => hx2 σ pins) (pa_cons (pv 3) (pa_cons pe_str pa_nil))))) pa_nil))) (pe_op op_rep (pe_lst (pa_cons pe_str pa_nil)) pe_int) (nomark _))
    (pss_one (ps_ret pe_bl)) pss_nil)
    (pss_cons (ps_set (i := 5) sc__law_refused_right.nd rfl (.inl rfl) (pe_lst (pa_cons (pe_told T TB rfl rfl rfl hr (by rfl) (by rfl) (by exact T.tk__law_refused_right) (by exact T.tu__law_refused_right) (lamS_by (by rfl)) (by rfl) (by intros; rfl) (fun A outer s H E f c' hr2 hx2 => (pe_meth (dvs := []) (pv 0) T.k_Marked T.M_Marked_children_by (ok_Marked_children_by T) (hr2.mono (by decide)) T.B_Marked_children_by .nil (fun pins σ => hx2 σ pins) (pa_cons pe_int (pa_cons pe_str pa_nil))))) pa_nil)))
    (pss_cons (ps_set (i := 5) sc__law_refused_right.nd rfl (.inl rfl) (pe_op op_cat (pv 5) (pe_lst (pa_cons (pe_told T TB rfl rfl rfl hr (by rfl) (by rfl) (by exact T.tk__law_refused_right) (by exact T.tu__law_refused_right) (lamS_by (by rfl)) (by rfl) (by intros; rfl) (fun A outer s H E f c' hr2 hx2 => (pe_meth (dvs := []) (pv 0) T.k_Marked T.M_Marked_child_by (ok_Marked_child_by T) (hr2.mono (by decide)) T.B_Marked_child_by .nil (fun pins σ => hx2 σ pins) (pa_cons pe_int (pa_cons pe_str pa_nil))))) pa_nil))))
    (pss_cons (ps_set (i := 5) sc__law_refused_right.nd rfl (.inl rfl) (pe_op op_cat (pv 5) (pe_lst (pa_cons (pe_told T TB rfl rfl rfl hr (by rfl) (by rfl) (by exact T.tk__law_refused_right) (by exact T.tu__law_refused_right) (lamS_by (by rfl)) (by rfl) (by intros; rfl) (fun A outer s H E f c' hr2 hx2 => (pe_meth (dvs := []) (pv 0) T.k_Marked T.M_Marked_count (ok_Marked_count T) (hr2.mono (by decide)) T.B_Marked_count .nil (fun pins σ => hx2 σ pins) (pa_cons pe_int (pa_cons pe_str pa_nil))))) pa_nil))))
    (pss_cons (ps_expr (pe_bmK (K := K) rfl F.plainAttrs_list F.slot_list_append F.type_list_append mt_append (pv 5) (pa_cons (pe_told T TB rfl rfl rfl hr (by rfl) (by rfl) (by exact T.tk__law_refused_right) (by exact T.tu__law_refused_right) (lamS_by (by rfl)) (by rfl) (by intros; rfl) (fun A outer s H E f c' hr2 hx2 => (pe_meth (dvs := []) (pv 0) T.k_Marked T.M_Marked_path (ok_Marked_path T) (hr2.mono (by decide)) T.B_Marked_path .nil (fun pins σ => hx2 σ pins) (pa_cons pe_str pa_nil)))) pa_nil) (by rfl) (by rfl) (by rfl) (by rfl) (by rfl)))
    (pss_cons (ps_expr (pe_bmK (K := K) rfl F.plainAttrs_list F.slot_list_append F.type_list_append mt_append (pv 5) (pa_cons (pe_told T TB rfl rfl rfl hr (by rfl) (by rfl) (by exact T.tk__law_refused_right) (by exact T.tu__law_refused_right) (lamS_by (by rfl)) (by rfl) (by intros; rfl) (fun A outer s H E f c' hr2 hx2 => (pe_meth (dvs := []) (pv 0) T.k_Marked T.M_Marked_path (ok_Marked_path T) (hr2.mono (by decide)) T.B_Marked_path .nil (fun pins σ => hx2 σ pins) (pa_cons pe_str pa_nil)))) pa_nil) (by rfl) (by rfl) (by rfl) (by rfl) (by rfl)))
    (pss_cons (ps_set (i := 5) sc__law_refused_right.nd rfl (.inl rfl) (pe_op op_cat (pv 5) (pe_lst (pa_cons (pe_told T TB rfl rfl rfl hr (by rfl) (by rfl) (by exact T.tk__law_refused_right) (by exact T.tu__law_refused_right) (lamS_by (by rfl)) (by rfl) (by intros; rfl) (fun A outer s H E f c' hr2 hx2 => (pe_make (dvs := []) T.mk_Marked (ok_Marked_init T) (hr2.mono (by decide)) (by rfl) T.g_Marked T.B_Marked_init .nil (fun pins σ => hx2 σ pins) (pa_cons (pv 1) (pa_cons (pe_op op_add_str (pv 2) pe_str) pa_nil))))) pa_nil))))
    (pss_cons (ps_set (i := 5) sc__law_refused_right.nd rfl (.inl rfl) (pe_op op_cat (pv 5) (pe_lst (pa_cons (pe_told T TB rfl rfl rfl hr (by rfl) (by rfl) (by exact T.tk__law_refused_right) (by exact T.tu__law_refused_right) (lamS_by (by rfl)) (by rfl) (by intros; rfl) (fun A outer s H E f c' hr2 hx2 => (pe_make (dvs := []) T.mk_Marked (ok_Marked_init T) (hr2.mono (by decide)) (by rfl) T.g_Marked T.B_Marked_init .nil (fun pins σ => hx2 σ pins) (pa_cons (pv 1) (pa_cons (pe_slice sl_str (pv 2) (po_some pe_int) po_none) pa_nil))))) pa_nil))))
    (pss_cons (ps_set (i := 5) sc__law_refused_right.nd rfl (.inl rfl) (pe_op op_cat (pv 5) (pe_lst (pa_cons (pe_told T TB rfl rfl rfl hr (by rfl) (by rfl) (by exact T.tk__law_refused_right) (by exact T.tu__law_refused_right) (lamS_by (by rfl)) (by rfl) (by intros; rfl) (fun A outer s H E f c' hr2 hx2 => (pe_make (dvs := []) T.mk_Marked (ok_Marked_init T) (hr2.mono (by decide)) (by rfl) T.g_Marked T.B_Marked_init .nil (fun pins σ => hx2 σ pins) (pa_cons (pv 1) (pa_cons (pe_op op_repS pe_str (pv 4)) pa_nil))))) pa_nil))))
    (pss_cons (ps_if (PW.pt (pw_or (pt_cmpR (op_neDK (K := K) rfl hr.units) (pv 5) (pe_op op_rep (pe_lst (pa_cons pe_str pa_nil)) pe_int) (nomark _)) (pw_or1 (pt_cmpR (op_neDK (K := K) rfl hr.units) (pe_told T TB rfl rfl rfl hr (by rfl) (by rfl) (by exact T.tk__law_refused_right) (by exact T.tu__law_refused_right) (lamS_by (by rfl)) (by rfl) (by intros; rfl) (fun A outer s H E f c' hr2 hx2 => (pe_make (dvs := []) T.mk_Marked (ok_Marked_init T) (hr2.mono (by decide)) (by rfl) T.g_Marked T.B_Marked_init .nil (fun pins σ => hx2 σ pins) (pa_cons (pe_op op_add_str (pv 1) pe_str) (pa_cons pe_str pa_nil))))) pe_str (nomark _)))))
    (pss_one (ps_ret pe_bl)) pss_nil)
    (pss_one (ps_ret pe_bl)))))))))))))))), ?_⟩
    have hs := hm.1
    have lsz : (S ss).length = ss.length := S_len ss
    have lbz : (sb l).length = l.length := sb_len l
    have h2l := W.pos
    have nn : ∀ j : Nat, (e : Int) = j → ¬ l[j]? = some true := fun j ej hj => by
      obtain rfl : e = j := by omega
      rw [he] at hj
      cases hj
    have nm : ∀ j : Nat, (-1 : Int) = j → ¬ l[j]? = some true := fun j ej => absurd ej (by omega)
    have n0 : ∀ {A : Prop}, (∀ j : Nat, (0 : Int) = j → ¬ l[j]? = some true) → A := fun h => absurd W.first (h 0 rfl)
    refine ⟨_, rfl, _, rfl, by rw [lsz]; exact tfits (by omega), ?_⟩
    refine ⟨hT, fun G xn tg => ?_⟩
    have hmg := hm.xt (Xt.ex (T := tK K) xn tg)
    have ⟨_, _, _, _, em, _⟩ := hmg
    refine ⟨_, rfl, m, _, _, rfl, em, rfl, _, rfl, m, l, ss, _, rfl, hmg, fun j ej hj => absurd hj (nn j ej), fun _ G2 xg => ⟨"BadPlace", by decide +kernel, rfl, rfl, fun G3 xh => ?_⟩⟩
    have xg := (Xt.ex (T := tK K) xn tg).trans (xg.trans xh)
    refine ⟨by exact (by decide : 1 ≤ sizeLine), fun a0 na => ?_⟩
    generalize hH : upd G3 a0 _ = G4
    have s := BN.new xg na hH
    clear hH na xn tg xg xh hmg em
    refine ⟨_, rfl, s.x.tb hT, fun G xn tg => ?_⟩
    have hmg := hm.xt (s.x.trans (.ex xn tg))
    have ⟨_, _, _, _, em, _⟩ := hmg
    refine ⟨_, rfl, m, _, _, rfl, em, rfl, _, rfl, m, l, ss, _, _, rfl, hmg, by decide +kernel, fun j c ej hj => absurd hj (nn j ej), fun _ G2 xg => ⟨"BadPlace", by decide +kernel, rfl, rfl, fun G3 xh => ?_⟩, fun j ej hj => absurd hj (nn j ej)⟩
    have s := s.xt ((Xt.ex (T := tK K) xn tg).trans (xg.trans xh))
    refine ⟨by exact (by decide : 1 ≤ sizeLine), fun a1 n1 => ?_⟩
    generalize hH : upd _ a1 _ = HX1
    have y4 := newE (lo := True) (T := tK K) hH n1
    have e4 := atE hH
    have s := s.xt y4
    clear hH n1
    refine ⟨_, _, _, _, rfl, rfl, s.e, e4, by exact (by decide : 2 ≤ sizeLine), fun bx n2 => ?_⟩
    generalize hH : upd _ bx _ = HY1
    have s := s.cat n2 hH
    clear hH n2 y4 e4
    clear xn tg xg xh hmg em
    refine ⟨_, rfl, s.x.tb hT, fun G xn tg => ?_⟩
    have hmg := hm.xt (s.x.trans (.ex xn tg))
    have ⟨_, _, _, _, em, _⟩ := hmg
    refine ⟨_, rfl, m, _, _, rfl, em, rfl, _, rfl, m, l, ss, _, _, rfl, hmg, by decide +kernel, fun j c ej hj => absurd hj (nm j ej), fun _ G2 xg => ⟨"BadPlace", by decide +kernel, rfl, rfl, fun G3 xh => ?_⟩, fun j ej hj => absurd hj (nm j ej)⟩
    have s := s.xt ((Xt.ex (T := tK K) xn tg).trans (xg.trans xh))
    refine ⟨by exact (by decide : 1 ≤ sizeLine), fun a1 n1 => ?_⟩
    generalize hH : upd _ a1 _ = HX2
    have y4 := newE (lo := True) (T := tK K) hH n1
    have e4 := atE hH
    have s := s.xt y4
    clear hH n1
    refine ⟨_, _, _, _, rfl, rfl, s.e, e4, by exact (by decide : 3 ≤ sizeLine), fun bx n2 => ?_⟩
    generalize hH : upd _ bx _ = HY2
    have s := s.cat n2 hH
    clear hH n2 y4 e4
    clear xn tg xg xh hmg em
    refine ⟨_, rfl, s.x.tb hT, fun G xn tg => ?_⟩
    have hmg := hm.xt (s.x.trans (.ex xn tg))
    have ⟨_, _, _, _, em, _⟩ := hmg
    refine ⟨_, rfl, m, _, _, rfl, em, rfl, _, rfl, m, l, ss, _, _, rfl, hmg, by decide +kernel, fun j c ej hj => absurd hj (nn j ej), fun _ G2 xg => ⟨"BadPlace", by decide +kernel, rfl, rfl, fun G3 xh => ?_⟩, fun j ej hj => absurd hj (nn j ej)⟩
    have s := s.xt ((Xt.ex (T := tK K) xn tg).trans (xg.trans xh))
    refine ⟨by exact (by decide : 1 ≤ sizeLine), fun a1 n1 => ?_⟩
    generalize hH : upd _ a1 _ = HX3
    have y4 := newE (lo := True) (T := tK K) hH n1
    have e4 := atE hH
    have s := s.xt y4
    clear hH n1
    refine ⟨_, _, _, _, rfl, rfl, s.e, e4, by exact (by decide : 4 ≤ sizeLine), fun bx n2 => ?_⟩
    generalize hH : upd _ bx _ = HY3
    have s := s.cat n2 hH
    clear hH n2 y4 e4
    clear xn tg xg xh hmg em
    refine ⟨by exact (by decide : 1 ≤ sizeLine), fun p2 n2 => ?_⟩
    generalize hH : upd _ p2 _ = H34
    have xd := newE (lo := True) (T := tK K) hH n2
    have ed := atE hH
    clear hH n2
    refine ⟨p2, 4, _, rfl, rfl, ed, by decide, by decide, by exact (by decide : 1 * 4 ≤ sizeLine), fun p3 n3 => ?_⟩
    generalize hH : upd H34 p3 _ = H44
    have xe := newE (lo := True) (T := tK K) hH n3
    have ee : H44 p3 = some (.lst (List.replicate 4 (.str "BadPlace"))) := by rw [atE hH]; exact congrArg (fun z => some (HO.lst z)) (rep_flatV 4 _)
    clear hH n3
    have s := s.xt (xd.trans xe)
    refine neD_same (dp_rep s.e) (dp_rep ee) (sh_rep (by decide +kernel)) ⟨_, rfl, iteF ?_⟩
    have x0 := s.x
    clear s xd xe ed ee
    refine ⟨x0.tb hT, fun G xn tg => ?_⟩
    have hmg := hm.xt (x0.trans (.ex xn tg))
    have ⟨_, _, _, _, em, _⟩ := hmg
    refine ⟨_, rfl, m, _, _, rfl, em, rfl, m, l, ss, _, _, rfl, hmg, by decide +kernel, fun j c ej hj ec ok => absurd ok (by rw [no_sg (l := []) (by decide) c (e_no.symm.trans ec)]; decide), fun h => n0 h, fun j ej hj _ G2 xg => ⟨"BadText", by decide +kernel, rfl, rfl, fun G3 xh => ?_⟩⟩
    have xg := (x0.trans (.ex xn tg)).trans (xg.trans xh)
    refine ⟨by exact (by decide : 1 ≤ sizeLine), fun a0 na => ?_⟩
    generalize hH : upd G3 a0 _ = G4
    have s := BN.new xg na hH
    clear hH na xn tg xg xh hmg em
    refine ⟨_, rfl, s.x.tb hT, fun G xn tg => ?_⟩
    have hmg := hm.xt (s.x.trans (.ex xn tg))
    have ⟨_, _, _, _, em, _⟩ := hmg
    refine ⟨_, rfl, m, _, _, rfl, em, rfl, m, l, ss, _, _, rfl, hmg, by decide +kernel, fun j c ej hj ec ok => absurd ok (by rw [no_sg (l := [97, 98]) (by decide) c (e_ab.symm.trans ec)]; decide), fun h => n0 h, fun j ej hj _ G2 xg => ⟨"BadText", by decide +kernel, rfl, rfl, fun G3 xh => ?_⟩⟩
    have s := s.xt ((Xt.ex (T := tK K) xn tg).trans (xg.trans xh))
    refine ⟨by exact (by decide : 1 ≤ sizeLine), fun a1 n1 => ?_⟩
    generalize hH : upd _ a1 _ = HX1
    have y4 := newE (lo := True) (T := tK K) hH n1
    have e4 := atE hH
    have s := s.xt y4
    clear hH n1
    refine ⟨_, _, _, _, rfl, rfl, s.e, e4, by exact (by decide : 2 ≤ sizeLine), fun bx n2 => ?_⟩
    generalize hH : upd _ bx _ = HY1
    have s := s.cat n2 hH
    clear hH n2 y4 e4
    clear xn tg xg xh hmg em
    refine ⟨_, rfl, s.x.tb hT, fun G xn tg => ?_⟩
    have hmg := hm.xt (s.x.trans (.ex xn tg))
    have ⟨_, _, _, _, em, _⟩ := hmg
    refine ⟨_, rfl, m, _, _, rfl, em, rfl, m, l, ss, _, _, rfl, hmg, by decide +kernel, fun j c ej hj ec ok => absurd ok (by rw [lf_bad c ec]; decide), fun h => n0 h, fun j ej hj _ G2 xg => ⟨"BadText", by decide +kernel, rfl, rfl, fun G3 xh => ?_⟩⟩
    have s := s.xt ((Xt.ex (T := tK K) xn tg).trans (xg.trans xh))
    refine ⟨by exact (by decide : 1 ≤ sizeLine), fun a1 n1 => ?_⟩
    generalize hH : upd _ a1 _ = HX2
    have y4 := newE (lo := True) (T := tK K) hH n1
    have e4 := atE hH
    have s := s.xt y4
    clear hH n1
    refine ⟨_, _, _, _, rfl, rfl, s.e, e4, by exact (by decide : 3 ≤ sizeLine), fun bx n2 => ?_⟩
    generalize hH : upd _ bx _ = HY2
    have s := s.cat n2 hH
    clear hH n2 y4 e4
    clear xn tg xg xh hmg em
    refine ⟨_, rfl, .inl ⟨rfl, _, SqL.of s.e⟩, s.x.tb hT, fun G xn tg => ?_⟩
    have hmg := hm.xt (s.x.trans (.ex xn tg))
    have ⟨_, _, _, _, em, _⟩ := hmg
    refine ⟨_, rfl, m, _, _, rfl, em, rfl, m, l, ss, [], by rw [e_no]; rfl, hmg, by decide, fun h => absurd rfl h.2, fun _ G2 xg => ⟨"BadText", by decide +kernel, rfl, rfl, fun G3 xh => ?_⟩⟩
    have s := s.xt ((Xt.ex (T := tK K) xn tg).trans (xg.trans xh))
    refine ⟨_, _, _, rfl, rfl, s.e, rep_lt (by decide), ?_⟩
    generalize hH : upd _ _ _ = HY3
    have s := s.app hH
    clear hH
    clear xn tg xg xh hmg em
    refine ⟨_, rfl, .inl ⟨rfl, _, SqL.of s.e⟩, s.x.tb hT, fun G xn tg => ?_⟩
    have hmg := hm.xt (s.x.trans (.ex xn tg))
    have ⟨_, _, _, _, em, _⟩ := hmg
    refine ⟨_, rfl, m, _, _, rfl, em, rfl, m, l, ss, [97, 10], by rw [e_alf]; rfl, hmg, by decide, fun h => absurd h.1 (not_lf (by simp)), fun _ G2 xg => ⟨"BadText", by decide +kernel, rfl, rfl, fun G3 xh => ?_⟩⟩
    have s := s.xt ((Xt.ex (T := tK K) xn tg).trans (xg.trans xh))
    refine ⟨_, _, _, rfl, rfl, s.e, rep_lt (by decide), ?_⟩
    generalize hH : upd _ _ _ = HY4
    have s := s.app hH
    clear hH
    clear xn tg xg xh hmg em
    refine ⟨_, rfl, s.x.tb hT, fun G xn tg => ⟨_, rfl, _, rfl, _, _, rfl, rfl, by rw [lsz, e_a, S_len]; exact tfits (by simp; omega), fun r2 dx2 h1 h2 h3 => ?_⟩⟩
    refine ⟨G, r2, dx2, sb l, ss ++ [97], by rw [e_a, S_app]; rfl, (Xt.new h2).trans (.new (by rw [upd_ne (Ne.symm h3)]; exact h1)), .of h1, upd_same .., by omega, by rw [List.length_append]; simp; omega, fun l' el _ _ gd => ?_, fun hb => ?_, fun _ _ _ _ _ H' x' => ⟨"BadText", by decide +kernel, rfl, rfl, fun G3 xh => ?_⟩⟩
    · exfalso
      rw [← sb_inj el] at gd
      have := gd.2
      rw [List.length_append] at this
      simp at this
      omega
    · have := hb l rfl W
      omega
    have s := s.xt ((Xt.ex (T := tK K) xn tg).trans (x'.trans xh))
    refine ⟨by exact (by decide : 1 ≤ sizeLine), fun a1 n1 => ?_⟩
    generalize hH : upd _ a1 _ = HX5
    have y4 := newE (lo := True) (T := tK K) hH n1
    have e4 := atE hH
    have s := s.xt y4
    clear hH n1
    refine ⟨_, _, _, _, rfl, rfl, s.e, e4, by exact (by decide : 6 ≤ sizeLine), fun bx n2 => ?_⟩
    generalize hH : upd _ bx _ = HY5
    have s := s.cat n2 hH
    clear hH n2 y4 e4
    clear xn tg x' xh h1 h2 h3
    refine ⟨_, rfl, s.x.tb hT, fun G xn tg => ⟨_, rfl, _, rfl, _, rfl, S ss, rfl, by rw [lsz]; exact tfits (by omega), fun r2 dx2 h1 h2 h3 => ?_⟩⟩
    refine ⟨G, r2, dx2, sb l, ss.drop 1, by rw [← cutS_drop]; rfl, (Xt.new h2).trans (.new (by rw [upd_ne (Ne.symm h3)]; exact h1)), .of h1, upd_same .., by omega, by rw [List.length_drop]; omega, fun l' el _ _ gd => ?_, fun hb => ?_, fun _ _ _ _ _ H' x' => ⟨"BadText", by decide +kernel, rfl, rfl, fun G3 xh => ?_⟩⟩
    · exfalso
      rw [← sb_inj el] at gd
      have := gd.2
      rw [List.length_drop] at this
      omega
    · have := hb l rfl W
      omega
    have s := s.xt ((Xt.ex (T := tK K) xn tg).trans (x'.trans xh))
    refine ⟨by exact (by decide : 1 ≤ sizeLine), fun a1 n1 => ?_⟩
    generalize hH : upd _ a1 _ = HX6
    have y4 := newE (lo := True) (T := tK K) hH n1
    have e4 := atE hH
    have s := s.xt y4
    clear hH n1
    refine ⟨_, _, _, _, rfl, rfl, s.e, e4, by exact (by decide : 7 ≤ sizeLine), fun bx n2 => ?_⟩
    generalize hH : upd _ bx _ = HY6
    have s := s.cat n2 hH
    clear hH n2 y4 e4
    clear xn tg x' xh h1 h2 h3
    refine ⟨_, rfl, s.x.tb hT, fun G xn tg => ⟨_, rfl, _, rfl, _, _, rfl, rfl, by rw [lsz, e_lf]; exact mulOk_S (by omega) (by omega), fun r2 dx2 h1 h2 h3 => ?_⟩⟩
    refine ⟨G, r2, dx2, sb l, List.replicate ss.length 10, by rw [lsz, e_lf, mul_S, Int.toNat_natCast]; rfl, (Xt.new h2).trans (.new (by rw [upd_ne (Ne.symm h3)]; exact h1)), .of h1, upd_same .., by omega, by rw [List.length_replicate]; omega, fun l' el _ _ gd => ?_, fun hb => ?_, fun _ _ _ _ _ H' x' => ⟨"BadText", by decide +kernel, rfl, rfl, fun G3 xh => ?_⟩⟩
    · exfalso
      rw [← sb_inj el] at gd
      exact absurd gd.1 (not_lf (List.mem_replicate.mpr ⟨by omega, rfl⟩))
    · have := hb l rfl W
      omega
    have s := s.xt ((Xt.ex (T := tK K) xn tg).trans (x'.trans xh))
    refine ⟨by exact (by decide : 1 ≤ sizeLine), fun a1 n1 => ?_⟩
    generalize hH : upd _ a1 _ = HX7
    have y4 := newE (lo := True) (T := tK K) hH n1
    have e4 := atE hH
    have s := s.xt y4
    clear hH n1
    refine ⟨_, _, _, _, rfl, rfl, s.e, e4, by exact (by decide : 8 ≤ sizeLine), fun bx n2 => ?_⟩
    generalize hH : upd _ bx _ = HY7
    have s := s.cat n2 hH
    clear hH n2 y4 e4
    clear xn tg x' xh h1 h2 h3
    refine ⟨_, rfl, by exact (by decide : 1 ≤ sizeLine), fun p2 n2 => ?_⟩
    generalize hH : upd _ p2 _ = H38
    have xd := newE (lo := True) (T := tK K) hH n2
    have ed := atE hH
    clear hH n2
    refine ⟨p2, 8, _, rfl, rfl, ed, by decide, by decide, by exact (by decide : 1 * 8 ≤ sizeLine), fun p3 n3 => ?_⟩
    generalize hH : upd H38 p3 _ = H48
    have xe := newE (lo := True) (T := tK K) hH n3
    have ee : H48 p3 = some (.lst (List.replicate 8 (.str "BadText"))) := by rw [atE hH]; exact congrArg (fun z => some (HO.lst z)) (rep_flatV 8 _)
    clear hH n3
    have s := s.xt (xd.trans xe)
    refine neD_same (dp_rep s.e) (dp_rep ee) (sh_rep (by decide +kernel)) ⟨_, rfl, iteF ?_⟩
    have x0 := s.x
    clear s xd xe ed ee
    have nW : ¬ okT (l ++ [false]) := fun W' => by
      have := W'.dq1 (i := l.length) (by omega) (by rw [List.length_append]; simp)
      unfold dq at this
      rw [List.take_left] at this
      have := W.fin
      omega
    have e_0 : (Str.ofString "0" : Str) = sb [false] := by decide +kernel
    refine ⟨x0.tb hT, fun G xn tg => ⟨_, rfl, _, _, rfl, rfl, by rw [lbz, e_0, sb_len]; exact tfits (by simp; omega), fun r2 dx2 h1 h2 h3 => ?_⟩⟩
    refine ⟨G, r2, dx2, sb (l ++ [false]), [10], by rw [e_0, e_lf, sb_app]; rfl, (Xt.new h2).trans (.new (by rw [upd_ne (Ne.symm h3)]; exact h1)), .of h1, upd_same .., by rw [sb_len, List.length_append]; simp; omega, by decide, fun l' el W' _ _ => ?_, fun _ H' x' => ⟨"BadBits", by decide +kernel, rfl, rfl, fun G3 xh => ?_⟩, fun l' el W' => ?_⟩
    · exact absurd (by rw [sb_inj el]; exact W') nW
    rotate_left
    · exact absurd (by rw [sb_inj el]; exact W') nW
    exact neC_same (.str _) (.str _) (sh_str (by decide +kernel)) ⟨_, rfl, iteF (q _ (x0.trans ((Xt.ex xn tg).trans (x'.trans xh))))⟩
end
end Tw

namespace L2
open PySem PySem.Spec PyProof.Rows LamX
/-- list.count of a flat value -/
def rCntF (K : PySem.W.Frag) : V → List V → Hp → VK → Prop := fun x xs H Q => ∃ (p : Addr) (ys : List V) (y : V), x = .ref p ∧ xs = [y] ∧ SqL K H p ys ∧ flatV y = true ∧ ys.all flatV = true ∧ Q (.int (ys.countP fun z => eqV z y : Nat)) H
theorem count_flat {y : V} : ∀ {ys : List V} {us : List Value}, Vals ys us → ys.all flatV = true → us.countP (eqU y) = ys.countP fun z => eqV z y
  | [], _, r, _ => by
    cases r
    rfl
  | z :: ys, _, r, f => by
    cases r with
    | cons r1 r2 =>
      rw [List.all_cons, Bool.and_eq_true] at f
      rw [List.countP_cons, List.countP_cons, count_flat r2 f.2, eqU_of r1 f.1]
variable {X : Cx}
theorem mt_fcount : MtR X "list.count" (rCntF X.K) := by
  intro pins s σ H x xs v us Q I rx rxs h
  obtain ⟨p, ys, y, rfl, rfl, hs, fy, fys, q⟩ := h
  cases rx
  cases rxs with
  | cons ry rt =>
    rename_i uy ut
    cases rt
    obtain ⟨its, rv, ⟨⟨cls, dd, data, sl⟩, n, ho, hc, hdn, hd⟩, hlen⟩ := I.list hs
    simp only at hc hd
    subst hc hd
    refine call_meets PySem.F.slot_list_count ⟨_, ho, rfl⟩ PySem.F.entry_list_count (PySem.F.args_list_count_2 _ _)
      (SeqAt.list_countAt p its.toArray n dd sl uy (eqU y)) ⟨ho, fun u' hu' => mem_eqAt ry fy rv fys u' (by simpa using hu'), ?_⟩
    have ec : its.toArray.toList.countP (eqU y) = ys.countP fun z => eqV z y := count_flat rv fys
    refine ⟨.int (ys.countP fun z => eqV z y : Nat), H, I.tok _, ⟨s.toks, ?_⟩, q⟩
    show Value.int ((its.toArray.toList.countP (eqU y) : Nat) : Int) s.toks = _
    rw [ec]
theorem mt_fcountK {K : PySem.W.Frag} (eK : X.K = K) : MtR X "list.count" (rCntF K) := by subst eK; exact mt_fcount
end L2

set_option maxHeartbeats 4000000
namespace Tw
open PySem PySem.Spec PyProof.Rows L2 LamX
section
variable {P : Program} {w : World} {K : PySem.W.Frag} {mg : Str → Option Value} {base : Heap}
def spLaw (K : PySem.W.Frag) : Sp := fun vs H Q _ => ∃ (a : Addr) (ns : List Int), vs = [.ref a] ∧ SqL K H a (ns.map .int) ∧ ns.length ≤ 63 ∧ Tabs (tK K) H ∧ ∀ H', Q (.bl true) H'
theorem spLaw_of {H : Hp} {a : Addr} {ns : List Int} (hS : SqL K H a (ns.map V.int)) (hl : ns.length ≤ 63) (_ : ∀ z ∈ ns, Builtin.Int.intBits z ≤ 1048576) (hT : Tabs (tK K) H) : spLaw K [.ref a] H (fun v _ => v = .bl true) fun _ _ _ => False := ⟨a, ns, rfl, hS, hl, hT, fun _ => rfl⟩
theorem e_abq : (Str.ofString "abq c" : Str) = S [97, 98, 113, 32, 99] := by decide +kernel
theorem getD_map {α β : Type} {L : List α} {f : α → β} {i : Nat} {x : α} {d : β} (h : L[i]? = some x) : (L.map f).getD i d = f x := by rw [List.getD_eq_getElem?_getD, List.getElem?_map, h]; rfl
theorem ok_law (T : Tx K mg) (TB : TabB base mg (He.cT K ("_law_refused_right", none)).1 (He.cT K ("_law_refused_right", none)).2) : OkN P w K mg base ("law", none) 214 ["_law_script"] (spLaw K) := by
  refine T.F_law.ok sc_law (fun vs H Q E h => ?_) (fun cdv A outer s H0 vs Q E hr h => ?_)
  · obtain ⟨a, ns, rfl, _⟩ := h
    rfl
  · obtain ⟨a, ns, rfl, ha, hl, hT, q⟩ := h
    refine ⟨_, (pss_cons (ps_for (passes_of rfl) rfl (pi_range1 (by rfl) T.z_range (pa_cons (pe_callB (call_max2 rfl) (by rfl) T.z_max b_max (pa_cons pe_int (pa_cons (pe_callB (call_min2 rfl) (by rfl) T.z_min b_min (pa_cons pe_int (pa_cons (pe_callB (call_len_seqK (K := K) rfl) (by rfl) T.z_len b_len (pa_cons (pv 0) pa_nil)) pa_nil))) pa_nil))) pa_nil)) (pg_name (i := 1) sc_law.nd rfl (.inl rfl))
    (pss_cons (ps_set (i := 2) sc_law.nd rfl (.inl rfl) (pe_callS (ok__law_drawn T) (hr.mono (by decide)) (by rfl) T.g__law_drawn T.F__law_drawn.kp T.B__law_drawn psE (pa_cons (pe_callS (ok__law_cell T) (hr.mono (by decide)) (by rfl) T.g__law_cell T.F__law_cell.kp T.B__law_cell psE (pa_cons (pv 0) (pa_cons (pv 1) pa_nil))) (pa_cons (pv 1) pa_nil))))
    (pss_cons (ps_set (i := 3) sc_law.nd rfl (.inl rfl) (pe_op op_add pe_int (pe_op op_mod (pe_op op_fdiv (pv 2) pe_int) pe_int)))
    (pss_cons (ps_set (i := 4) sc_law.nd rfl (.inl rfl) (pe_callS (ok__law_bits_of T 210) (hr.mono (by decide)) (by rfl) T.g__law_bits_of T.F__law_bits_of.kp T.B__law_bits_of psE (pa_cons (pe_callS (ok__law_tree T) (hr.mono (by decide)) (by rfl) T.g__law_tree T.F__law_tree.kp T.B__law_tree psE (pa_cons (pe_op op_fdiv (pv 2) pe_int) (pa_cons (pv 3) pa_nil))) pa_nil)))
    (pss_cons (ps_set (i := 5) sc_law.nd rfl (.inr rfl) (pe_callS (ok__law_signs T) (hr.mono (by decide)) (by rfl) T.g__law_signs T.F__law_signs.kp T.B__law_signs psE (pa_cons (pe_op op_fdiv (pv 2) pe_int) (pa_cons (pv 3) pa_nil))))
    (pss_cons (ps_set (i := 6) sc_law.nd rfl (.inr rfl) (pe_callS (ok__law_model T) (hr.mono (by decide)) (by rfl) T.g__law_model T.F__law_model.kp T.B__law_model psE (pa_cons (pv 4) pa_nil)))
    (pss_cons (ps_set (i := 7) sc_law.nd rfl (.inl rfl) (pe_make (dvs := []) T.mk_Marked (ok_Marked_init T) (hr.mono (by decide)) (by rfl) T.g_Marked T.B_Marked_init .nil psP (pa_cons (pv 4) (pa_cons (pv 5) pa_nil))))
    (pss_cons (ps_set (i := 8) sc_law.nd rfl (.inr rfl) (pe_callB (cr_sortedDict rfl) (by rfl) T.z_sorted b_sorted (pa_cons (pv 6) pa_nil)))
    (pss_cons (ps_if (PW.pt (pw_or (pt_cmpR op_ne (pe_meth0 (dvs := []) (pv 7) T.k_Marked T.M_Marked_room (ok_Marked_room T) (hr.mono (by decide)) T.B_Marked_room .nil psP) (pe_op op_add (pe_meth0 (dvs := []) (pe_make (dvs := []) T.mk_Wood (ok_Wood_init T) (hr.mono (by decide)) (by rfl) T.g_Wood T.B_Wood_init .nil psP (pa_cons (pv 4) pa_nil)) T.k_Wood T.M_Wood_room (ok_Wood_room T) (hr.mono (by decide)) T.B_Wood_room .nil psP) (pe_meth0 (dvs := []) (pe_make (dvs := []) T.mk_Text (ok_Text_init T) (hr.mono (by decide)) (by rfl) T.g_Text T.B_Text_init .nil psP (pa_cons (pv 5) pa_nil)) T.k_Text T.M_Text_room (ok_Text_room T) (hr.mono (by decide)) T.B_Text_room .nil psP)) (nomark _)) (pw_or1 (pt_cmpR op_ne (pe_meth0 (dvs := []) (pe_meth0 (dvs := []) (pv 7) T.k_Marked T.M_Marked_wood (ok_Marked_wood T) (hr.mono (by decide)) T.B_Marked_wood .nil psP) T.k_Wood T.M_Wood_size (ok_Wood_size T) (hr.mono (by decide)) T.B_Wood_size .nil psP) (pv 3) (nomark _)))))
    (pss_one (ps_ret pe_bl)) pss_nil)
    (pss_cons (ps_set (i := 9) sc_law.nd rfl (.inr rfl) (pe_lc (own := [("_law_node", 10)]) rfl sc_law.nd (pi_listK (K := K) rfl (pv 8)) (blkOk_by (N := N_law) (sc := defScope s_law) (by decide +kernel)) (fun _ _ _ _ _ => (pg_name (i := 10) sc_law.nd rfl (.inl rfl))) (fun _ _ _ _ _ => pts_nil) (fun _ _ _ _ _ => (pe_callS (ok__law_way T) (hr.mono (by decide)) (by rfl) T.g__law_way T.F__law_way.kp T.B__law_way ps0 (pa_cons (pv 6) (pa_cons (pv 5) (pa_cons (pv 10) pa_nil)))))))
    (pss_cons (ps_for (passes_of rfl) rfl (pi_range1 (by rfl) T.z_range (pa_cons pe_int pa_nil)) (pg_name (i := 11) sc_law.nd rfl (.inl rfl))
    (pss_cons (ps_set (i := 12) sc_law.nd rfl (.inl rfl) (pe_callS (ok__law_drawn T) (hr.mono (by decide)) (by rfl) T.g__law_drawn T.F__law_drawn.kp T.B__law_drawn psE (pa_cons (pv 2) (pa_cons (pe_op op_add pe_int (pv 11)) pa_nil))))
    (pss_cons (ps_set (i := 10) sc_law.nd rfl (.inl rfl) (pe_ix (ix_listK (K := K) rfl) (pv 8) (pe_op op_mod (pv 12) (pv 3)) (fun _ _ => rfl)))
    (pss_cons (ps_set (i := 13) sc_law.nd rfl (.inr rfl) (pe_ix ix_str pe_str (pe_op op_mod (pe_op op_fdiv (pv 12) pe_int) pe_int) (fun _ _ => rfl)))
    (pss_cons (ps_setLc (i := 14) (own := [("_law_one", 15)]) rfl sc_law.nd rfl rfl (sw_true rfl rfl rfl (by decide +kernel)) (pi_listK (K := K) rfl (pe_dgetU hr.units (pe_dgetU hr.units (pv 6) (pv 10) (fun _ _ => rfl)) pe_str (fun _ _ => rfl))) (blkOk_by (N := N_law) (sc := defScope s_law) (by decide +kernel)) (fun _ _ _ _ _ => (pg_name (i := 15) sc_law.nd rfl (.inl rfl))) (fun _ _ _ _ _ => (pts_one (pt_cmpR op_eq (pe_ix ix_str (pv 5) (pe_dgetU hr.units (pe_dgetU hr.units (pv 6) (pv 15) (fun _ _ => rfl)) pe_str (fun _ _ => rfl)) (fun _ _ => rfl)) (pv 13) (nomark _)))) (fun _ _ _ _ _ => (pv 15)))
    (pss_cons (ps_if (PW.pt (pw_or (pt_cmpR op_ne (pe_meth (dvs := []) (pv 7) T.k_Marked T.M_Marked_sign (ok_Marked_sign T) (hr.mono (by decide)) T.B_Marked_sign .nil psP (pa_cons (pv 10) pa_nil)) (pe_ix ix_str (pv 5) (pe_dgetU hr.units (pe_dgetU hr.units (pv 6) (pv 10) (fun _ _ => rfl)) pe_str (fun _ _ => rfl)) (fun _ _ => rfl)) (nomark _)) (pw_or1 (pt_cmpR (op_neDK (K := K) rfl hr.units) (pe_meth (dvs := []) (pv 7) T.k_Marked T.M_Marked_children_by (ok_Marked_children_by T) (hr.mono (by decide)) T.B_Marked_children_by .nil psP (pa_cons (pv 10) (pa_cons (pv 13) pa_nil))) (pv 14) (nomark _)))))
    (pss_one (ps_ret pe_bl)) pss_nil)
    (pss_cons (ps_setLc (i := 16) (own := [("_law_one", 15)]) rfl sc_law.nd rfl rfl (sw_true rfl rfl rfl (by decide +kernel)) (pi_listK (K := K) rfl (pe_callS (ok__law_own T) (hr.mono (by decide)) (by rfl) T.g__law_own T.F__law_own.kp T.B__law_own psE (pa_cons (pv 6) (pa_cons (pv 10) pa_nil)))) (blkOk_by (N := N_law) (sc := defScope s_law) (by decide +kernel)) (fun _ _ _ _ _ => (pg_name (i := 15) sc_law.nd rfl (.inl rfl))) (fun _ _ _ _ _ => pts_nil) (fun _ _ _ _ _ => (pe_ix ix_str (pv 5) (pe_dgetU hr.units (pe_dgetU hr.units (pv 6) (pv 15) (fun _ _ => rfl)) pe_str (fun _ _ => rfl)) (fun _ _ => rfl))))
    (pss_cons (ps_if (PW.pt (pw_or (pt_cmpR op_ne (pe_meth (dvs := []) (pv 7) T.k_Marked T.M_Marked_child_by (ok_Marked_child_by T) (hr.mono (by decide)) T.B_Marked_child_by .nil psP (pa_cons (pv 10) (pa_cons (pv 13) pa_nil))) (pe_ix (ix_listK (K := K) rfl) (pe_op op_cat (pv 14) (pe_lst (pa_cons pe_non pa_nil))) pe_int (fun _ _ => rfl)) (nomark _)) (pw_or1 (pt_cmpR op_ne (pe_meth (dvs := []) (pv 7) T.k_Marked T.M_Marked_count (ok_Marked_count T) (hr.mono (by decide)) T.B_Marked_count .nil psP (pa_cons (pv 10) (pa_cons (pv 13) pa_nil))) (pe_bmK (K := K) rfl F.plainAttrs_list F.slot_list_count F.type_list_count (mt_fcountK (K := K) rfl) (pv 16) (pa_cons (pv 13) pa_nil) (by rfl) (by rfl) (by rfl) (by rfl) (by rfl)) (nomark _)))))
    (pss_one (ps_ret pe_bl)) pss_nil)
    (pss_cons (ps_set (i := 17) sc_law.nd rfl (.inr rfl) (pe_ix (ix_listK (K := K) rfl) (pe_lst (pa_cons (pe_ix (ix_listK (K := K) rfl) (pv 9) (pe_op op_mod (pe_op op_fdivW (pv 12) (pe_op op_pow pe_int pe_int)) (pv 3)) (fun _ _ => rfl)) (pa_cons (pe_op op_add_str (pe_ix (ix_listK (K := K) rfl) (pv 9) (pe_op op_mod (pe_op op_fdivW (pv 12) (pe_op op_pow pe_int pe_int)) (pv 3)) (fun _ _ => rfl)) (pv 13)) (pa_cons (pe_op op_add_str (pv 13) (pe_ix (ix_listK (K := K) rfl) (pv 9) pe_int (fun _ _ => rfl))) pa_nil)))) (pe_op op_mod (pv 11) pe_int) (fun _ _ => rfl)))
    (pss_one (ps_if (pt_cmpR (op_neDK (K := K) rfl hr.units) (pe_meth (dvs := []) (pv 7) T.k_Marked T.M_Marked_path (ok_Marked_path T) (hr.mono (by decide)) T.B_Marked_path .nil psP (pa_cons (pv 17) pa_nil)) (pe_lc (own := [("_law_at", 18)]) rfl sc_law.nd (pi_range1 (by rfl) T.z_range (pa_cons (pv 3) pa_nil)) (blkOk_by (N := N_law) (sc := defScope s_law) (by decide +kernel)) (fun _ _ _ _ _ => (pg_name (i := 18) sc_law.nd rfl (.inl rfl))) (fun _ _ _ _ _ => (pts_one (pt_cmpR op_eq (pe_ix (ix_listK (K := K) rfl) (pv 9) (pv 18) (fun _ _ => rfl)) (pv 17) (nomark _)))) (fun _ _ _ _ _ => (pe_ix (ix_listK (K := K) rfl) (pv 8) (pv 18) (fun _ _ => rfl)))) (nomark _))
    (pss_one (ps_ret pe_bl)) pss_nil)))))))))))
    (pss_one (ps_if (pt_not (pt_val (pe_callS (ok__law_refused_right T TB) (hr.mono (by decide)) (by rfl) T.g__law_refused_right T.F__law_refused_right.kp T.B__law_refused_right psE (pa_cons (pv 7) (pa_cons (pv 4) (pa_cons (pv 5) (pa_cons (pe_dgetU hr.units (pe_dgetU hr.units (pv 6) pe_int (fun _ _ => rfl)) pe_str (fun _ _ => rfl)) pa_nil)))))))
    (pss_one (ps_ret pe_bl)) pss_nil)))))))))))))
    (pss_one (ps_ret pe_bl))), ?_⟩
    refine ⟨_, rfl, _, _, rfl, .inl ha, _, _, rfl, _, _, rfl, _, rfl, ?_, ?_, for_it w_range (fun i σ H' => Xt (tK K) H0 H' ∧ ∃ t, σ = some (.ref a) :: t ∧ t.length = 18) ⟨Xt.refl, _, rfl, rfl⟩ (fun _ _ _ _ _ => trivial) ?_ (fun σ H' h => q _)⟩
    · split <;> split <;> simp only [List.length_map] at * <;> omega
    · split <;> split <;> simp only [List.length_map] at * <;> omega
    intro k x σ H1 H2 hk p hy
    obtain ⟨x1, t, rfl, ht⟩ := p
    obtain ⟨rfl, rfl⟩ := hy
    have hk2 : k ≤ 63 := by
      have : ((if (if ((ns.map V.int).length : Int) < 2 then ((ns.map V.int).length : Int) else 2) > 1 then (if ((ns.map V.int).length : Int) < 2 then ((ns.map V.int).length : Int) else 2) else 1) : Int) ≤ 63 := by
        rw [List.length_map]
        split <;> split <;> omega
      omega
    match t, ht with
    | [o1, o2, o3, o4, o5, o6, o7, o8, o9, o10, o11, o12, o13, o14, o15, o16, o17, o18], _ =>
    refine ⟨_, rfl, _, rfl, a, ns, k, ?_, x1.seq ha, by omega, by omega, fun H2 x2 => ?_⟩
    · rw [Int.zero_add]
    have x2 := x1.trans x2
    refine ⟨_, rfl, _, (0 + (k : Int)), rfl, by omega, by omega, ?_⟩
    generalize hm : dr (cellV ns k) (0 + (k : Int)) = m
    have hm0 : 0 ≤ m := by rw [← hm]; exact (dr_rng _ _).1
    have hmA : m < pA := by rw [← hm]; exact (dr_rng _ _).2
    generalize (0 + (k : Int)) = k0
    -- the tree
    obtain ⟨n, hn, hn1, hn2⟩ : ∃ n : Nat, (1 : Int) + m / 64 % 40 = n ∧ 1 ≤ n ∧ n ≤ 40 := ⟨(1 + m / 64 % 40).toNat, by omega, by omega, by omega⟩
    refine ⟨_, rfl, _, _, rfl, rfl, ⟨by decide, by decide⟩, _, _, rfl, rfl, (show (0 : Int) < 40 by decide), _, _, rfl, rfl, gv (v := .int (n : Int)) (congrArg V.int hn) ?_⟩
    refine ⟨_, rfl, _, _, rfl, rfl, ⟨by decide, by decide⟩, _, rfl, m / 8, n, rfl, by omega, hn1, by omega, fun H3 v o x3 ov hoc hoT hol hoh => ⟨v, o, rfl, ov, hoT, by omega, by omega, fun H4 x4 => ?_⟩⟩
    have x4 := (x2.trans x3).trans x4.up
    have W : okT (btT o) := okT_bt hoT (by omega)
    have hl2 : (btT o).length ≤ 80 := by omega
    show gName 4 (V.str (sb (btT o))) _ _ _
    generalize btT o = l at W hl2 hol ⊢
    have hz := wood_sz (l := l) (by omega)
    -- the signs
    refine ⟨_, rfl, _, _, rfl, rfl, ⟨by decide, by decide⟩, _, rfl, _, n, rfl, by omega, fun H5 ss x5 hss hok => ?_⟩
    have x5 := x4.trans x5
    have g : goodT ss := ⟨by omega, hok⟩
    have hs : ss.length = l.length / 2 := by omega
    have lsz : (S ss).length = ss.length := S_len ss
    refine ⟨_, rfl, l, rfl, W, by omega, fun H6 d x6 hm => ?_⟩
    have x6 := x5.trans x6.up
    refine ⟨_, rfl, _, rfl, fun u du h1 h2 h3 => ?_⟩
    have xm : Xt (tK K) H6 (upd (upd H6 du (.own u)) u (.ins (He.ga K "Marked") du [])) := (Xt.new h2).trans (.new (by rw [upd_ne (Ne.symm h3)]; exact h1))
    refine ⟨H6, u, du, sb l, ss, rfl, xm, .of h1, upd_same .., by rw [sb_len]; omega, by omega, fun l' el _ _ _ H7 x7 hk => ⟨rfl, ?_⟩, fun h => absurd (h l rfl W) (by omega), fun l' el' _ _ h => absurd ⟨g, by rw [← sb_inj el']; exact hs⟩ h⟩
    have el := sb_inj el
    subst el
    have hm := hm.xt x7
    have x7 := x6.trans x7
    obtain ⟨ra, ba, M⟩ := hm
    refine ⟨_, rfl, sortModel M (by omega) fun a2 na => ?_⟩
    generalize hH : upd H7 a2 _ = H8
    have xx := newE (lo := True) (T := tK K) hH na
    have ea := atE hH
    clear hH na
    have M := M.xt xx
    have hk := hk.xt xx
    have x8 := x7.trans xx
    clear xx xm h1 h2 h3
    -- the rooms
    refine ⟨_, rfl, u, _, _, rfl, hk.2.choose_spec.choose_spec.choose_spec.1, rfl, u, l, ss, rfl, hk, fun H9 x9 => ?_⟩
    have hk := hk.xt x9
    have M := M.xt x9
    have ea := x9.lst ea
    have x9 := x8.trans x9
    clear x2 x3 x4 x5 x6 x7 x8
    refine ⟨_, rfl, fun u2 d2 h1 h2 h3 => ?_⟩
    have xm : Xt (tK K) H9 (upd (upd H9 d2 (.own u2)) u2 (.ins (He.ga K "Wood") d2 [])) := (Xt.new h2).trans (.new (by rw [upd_ne (Ne.symm h3)]; exact h1))
    refine ⟨H9, u2, d2, sb l, rfl, xm, .of h1, upd_same .., by rw [sb_len]; omega, fun l' el _ _ H10 x10 hw2 => ⟨rfl, ?_⟩, fun h => absurd (h l rfl W) (by omega)⟩
    have el := sb_inj el
    subst el
    have ⟨_, _, _, _, _, ew2, _⟩ := hw2
    refine ⟨u2, _, _, rfl, ew2, rfl, u2, l, rfl, hw2, ?_⟩
    clear xm h1 h2 h3
    refine ⟨_, rfl, fun t2 d3 h1 h2 h3 => ?_⟩
    have xm : Xt (tK K) H10 (upd (upd H10 d3 (.own t2)) t2 (.ins (He.ga K "Text") d3 [])) := (Xt.new h2).trans (.new (by rw [upd_ne (Ne.symm h3)]; exact h1))
    refine ⟨H10, t2, d3, ss, rfl, xm, .of h1, upd_same .., by omega, fun _ H11 x11 ht2 => ⟨rfl, ?_⟩, fun h => absurd g h⟩
    have ⟨_, _, _, _, et2, _⟩ := ht2
    refine ⟨t2, _, _, rfl, et2, rfl, t2, ss, rfl, ht2, fun H12 x12 => ⟨_, _, rfl, rfl, rfl, _, rfl, ite2 (fun h => (nself (v := V.int (roomM l ss)) h).elim) fun _ => ?_⟩⟩
    have yy := x10.trans (x11.trans x12)
    have hk := hk.xt yy
    have M := M.xt yy
    have ea := yy.lst ea
    have xx := x9.trans yy
    clear x9 x10 x11 x12 yy xm h1 h2 h3 et2 ht2 hw2 ew2
    have hkk := hk
    obtain ⟨_, uw, tw, dm, em, hw, htw⟩ := hkk
    have ⟨_, _, _, _, _, ew, _⟩ := hw
    refine ⟨_, rfl, u, _, _, rfl, em, rfl, u, l, ss, rfl, hk, fun u3 hw3 => ?_⟩
    have ⟨_, _, _, _, _, ew3, _⟩ := hw3
    refine ⟨u3, _, _, rfl, ew3, rfl, u3, l, rfl, hw3, _, rfl, rfl, _, rfl, ite2 (fun h => ?_) fun _ => ?_⟩
    · rw [decide_eq_true (by rw [hol]; exact congrArg V.int (by omega))] at h
      cases h
    clear ew3 hw3 ew htw hw em
    -- the ways
    have hpn : (pos true l).length = n := by
      have := W.len
      show cn true l l.length = n
      omega
    have lpm : ((pos true l).map fun i : Nat => V.int i).length = (pos true l).length := List.length_map ..
    have many : ∀ f : Nat → V, ((List.range (pos true l).length).map fun i => f ((pos true l).getD i 0)) = (pos true l).map f := fun f => by
      refine List.ext_getElem (by simp) fun i h1 h2 => ?_
      simp at h1 h2
      simp [List.getD_eq_getElem?_getD, List.getElem?_eq_getElem h1]
    have at_ : ∀ {L : List Nat} {i : Nat} {x : V}, (L.map fun i : Nat => V.int i)[i]? = some x → x = .int (L.getD i 0 : Nat) ∧ L[i]? = some (L.getD i 0) := fun {L i x} h => by
      rw [List.getElem?_map] at h
      obtain ⟨y, hy, rfl⟩ := Option.map_eq_some_iff.mp h
      have e : L.getD i 0 = y := by rw [List.getD_eq_getElem?_getD, hy]; rfl
      rw [e]
      exact ⟨rfl, hy⟩
    refine ⟨_, rfl, a2, rfl, ⟨_, SqL.of ea⟩, fun D hD => lcP (T := tK K) w_list hD (by rw [lpm]; omega) (fun _ x => x.seq (SqL.of ea)) (fun i => .str (S (wy l ss ((pos true l).getD i 0)))) ?_ fun H13 x13 eD => ?_⟩
    · intro i x H' hi hy x1 Q q
      obtain ⟨rfl, hc⟩ := at_ hy
      exact ⟨_, rfl, _, rfl, _, rfl, d, l, ss, _, rfl, W, by omega, ⟨ra, ba, M.xt x1⟩, hs, (pos_at hc).1, q _ .refl⟩
    rw [lpm, many fun c => .str (S (wy l ss c))] at eD
    have hk := hk.xt x13
    have M := M.xt x13
    have ea := x13.lst ea
    have xx := xx.trans x13
    clear x13 hD
    have pick : ∀ z : Nat, ∃ c, (pos true l)[z % n]? = some c ∧ l[c]? = some true ∧ atI ((pos true l).map fun i : Nat => V.int i) ((z : Int) % (n : Int)) = some (.int c) ∧ atI ((pos true l).map fun c => V.str (S (wy l ss c))) ((z : Int) % (n : Int)) = some (.str (S (wy l ss c))) := fun z => by
      have hz : z % n < (pos true l).length := by rw [hpn]; exact Nat.mod_lt z (by omega)
      refine ⟨(pos true l)[z % n], List.getElem?_eq_getElem hz, (pos_at (List.getElem?_eq_getElem hz)).1, ?_, ?_⟩
      · rw [← Int.natCast_emod]
        exact atI_nat (by rw [List.getElem?_map, List.getElem?_eq_getElem hz]; rfl)
      · rw [← Int.natCast_emod]
        exact atI_nat (by rw [List.getElem?_map, List.getElem?_eq_getElem hz]; rfl)
    have hL : (0 : Int) < (n : Int) := by omega
    have kk : ∀ {HH : Hp}, MarkAt K HH u l ss → ∃ dm uw tw : Addr, HH u = some (.ins (He.ga K "Marked") dm [("ground", .ref uw), ("marks", .ref tw)]) := fun h => by
      obtain ⟨_, _, _, _, em, _⟩ := h
      exact ⟨_, _, _, em⟩
    have hk13 := hk
    have M13 := M
    have x013 := xx
    -- eight times
    refine ⟨_, rfl, by decide, by decide, for_it w_range (fun i σ H' => Xt (tK K) H13 H' ∧ ∃ t10 t11 t12 t13 t14 t15 t16 t17 t18, σ = [some (.ref a), some (.int k0), some (.int m), some (.int n), some (.str (sb l)), some (.str (S ss)), some (.ref d), some (.ref u), some (.ref a2), some (.ref D), t10, t11, t12, t13, t14, t15, t16, t17, t18]) ⟨.refl, _, _, _, _, _, _, _, _, _, rfl⟩ (fun _ _ _ _ _ => trivial) ?_ ?_⟩
    · intro i x σ Hb Hc hi hp hy
      obtain ⟨xb, t10, t11, t12, t13, t14, t15, t16, t17, t18, rfl⟩ := hp
      obtain ⟨rfl, rfl⟩ := hy
      have hi : i < 8 := by omega
      have ei : (0 : Int) + (i : Int) = (i : Int) := by omega
      rw [ei]
      refine ⟨_, rfl, _, rfl, _, _, rfl, rfl, _, _, rfl, by omega, by omega, ?_⟩
      have hd0 := (dr_rng m (100 + (i : Int))).1
      generalize dr m (100 + (i : Int)) = e at hd0 ⊢
      obtain ⟨e, rfl⟩ : ∃ k : Nat, e = k := ⟨e.toNat, by omega⟩
      have hk := hk.xt xb
      have M := M.xt xb
      have ea := xb.lst ea
      have eD := xb.lst eD
      obtain ⟨c, _, hc, at1, _⟩ := pick e
      obtain ⟨c2, _, hc2, _, at2⟩ := pick (e / 65536)
      refine ⟨_, rfl, _, rfl, _, rfl, _, _, rfl, rfl, hL, a2, _, _, .int c, rfl, rfl, SqL.of ea, at1, ?_⟩
      obtain ⟨sc, hsc, hoksc⟩ : ∃ sc, atI ([97, 98, 113, 32, 99] : List Nat) ((e : Int) / 256 % 5) = some sc ∧ okSg sc = true := by
        obtain ⟨k, hk1, hk2⟩ : ∃ k : Nat, (e : Int) / 256 % 5 = k ∧ k < 5 := ⟨((e : Int) / 256 % 5).toNat, by omega, by omega⟩
        rw [hk1]
        match k, hk2 with
        | 0, _ => exact ⟨97, rfl, rfl⟩
        | 1, _ => exact ⟨98, rfl, rfl⟩
        | 2, _ => exact ⟨113, rfl, rfl⟩
        | 3, _ => exact ⟨32, rfl, rfl⟩
        | 4, _ => exact ⟨99, rfl, rfl⟩
      refine ⟨_, rfl, _, _, rfl, rfl, ⟨by decide, by decide⟩, _, _, rfl, rfl, (show (0 : Int) < 5 by decide), S [97, 98, 113, 32, 99], _, sc, congrArg V.str e_abq, rfl, by rw [S_len]; decide, hsc, ?_⟩
      -- children by signs
      have lb : ((below l c).map fun i : Nat => V.int i).length = (below l c).length := List.length_map ..
      have lb2 : (below l c).length ≤ 80 := by
        have : (below l c).length ≤ (List.range l.length).length := List.length_filter_le ..
        rw [List.length_range] at this
        omega
      have lss : (S ss).length ≤ sizeLine := by rw [lsz]; exact tfits (by omega)
      have eqs : ∀ y : Nat, decide (V.str (sg (sgm l ss y)) = V.str (sg sc)) = (sgm l ss y == sc) := fun y => by
        rw [Bool.eq_iff_iff, decide_eq_true_eq, beq_iff_eq]
        constructor
        · intro h
          injection h with h
          exact sg_inj h
        · intro h
          rw [h]
      refine ⟨_, rfl, _, rfl, d, .ref (ra c), rfl, M.g hc, ra c, .ref (ba c), rfl, dgS (M.r c hc) rec1_below, ba c, rfl, ⟨_, SqL.of (M.b c hc)⟩, fun D2 hD2 => lcF (T := tK K) w_list hD2 (by rw [lb]; omega) (fun _ x => x.seq (SqL.of (M.b c hc))) (fun i => sgm l ss ((below l c).getD i 0) == sc) (fun i => .int ((below l c).getD i 0 : Nat)) ?_ ?_ fun H15 x15 e15 => ?_⟩
      · intro i x H' hi hy x1 Q q
        obtain ⟨rfl, ho⟩ := at_ hy
        have ho1 := (isCh_iff.mp (mem_below.mp (List.mem_of_getElem? ho))).1
        have M1 := M.xt x1
        generalize (below l c).getD i 0 = y at q ho1 ⊢
        have q := q H' .refl
        rw [← eqs] at q
        exact ⟨_, rfl, _, rfl, _, rfl, d, .ref (ra y), rfl, M1.g ho1, ra y, .int (cn true l y : Nat), rfl, dgS (M1.r y ho1) rec1_number, S ss, _, sgm l ss y, rfl, rfl, lss, atI_nat (sgm_at W hs ho1), _, rfl, rfl, _, rfl, q⟩
      · intro i x H' hi hy _ x1 Q q
        obtain ⟨rfl, ho⟩ := at_ hy
        exact ⟨_, rfl, q _ .refl⟩
      have e15 : H15 D2 = some (.lst ((chBy l ss c sc).map fun i : Nat => V.int i)) := by
        rw [lb, kept_gen (0 : Nat) (fun x => sgm l ss x == sc) (fun x : Nat => V.int x) (below l c)] at e15
        exact e15
      have hk := hk.xt x15
      have M := M.xt x15
      have ea := x15.lst ea
      have eD := x15.lst eD
      have xb := xb.trans x15
      have lsg : (sg sc).length ≤ 100000 := by rw [show (sg sc).length = 1 from S_len [sc]]; decide
      obtain ⟨dm, uw, tw, em⟩ := kk hk
      refine ⟨_, rfl, u, _, _, rfl, em, rfl, _, rfl, u, l, ss, _, rfl, hk, fun j' ej hj' H16 x16 => ?_, fun hb => absurd hc (hb c rfl)⟩
      obtain rfl : c = j' := by omega
      have hk := hk.xt x16
      have M := M.xt x16
      have ea := x16.lst ea
      have eD := x16.lst eD
      have e15 := x16.lst e15
      have xb := xb.trans x16
      refine ⟨_, rfl, _, rfl, _, rfl, d, .ref (ra c), rfl, M.g hc, ra c, .int (cn true l c : Nat), rfl, dgS (M.r c hc) rec1_number, S ss, _, sgm l ss c, rfl, rfl, lss, atI_nat (sgm_at W hs hc), rfl, _, rfl, ite2 (fun h => (nself h).elim) fun _ => ?_⟩
      obtain ⟨dm, uw, tw, em⟩ := kk hk
      refine ⟨_, rfl, u, _, _, rfl, em, rfl, _, rfl, _, rfl, u, l, ss, _, _, rfl, hk, lsg, fun j' c' ej hj' ec _ H17 a17 x17 n17 e17 => ?_, fun hb => absurd hc (hb c rfl), fun _ _ _ bad => absurd hoksc (by rw [bad sc rfl]; decide)⟩
      obtain rfl := sg_inj ec
      obtain rfl : c = j' := by omega
      have hk := hk.xt x17
      have M := M.xt x17
      have ea := x17.lst ea
      have eD := x17.lst eD
      have e15 := x17.lst e15
      have xb := xb.trans x17
      refine ⟨_, rfl, neD_same (dp_nats e17) (dp_nats e15) sh_ints ⟨_, rfl, iteF ?_⟩⟩
      clear x15 x16 x17 n17 e17 em
      -- the signs of its tree
      have lo : ((own l c).map fun i : Nat => V.int i).length = (own l c).length := List.length_map ..
      have lo2 : (own l c).length ≤ 80 := by
        rw [ownN_len W hc]
        have h1 := (cn_many W hc).2
        have h2 := (ends_en W hc).le
        omega
      refine ⟨_, rfl, _, rfl, d, l, c, rfl, W, by omega, ⟨ra, ba, M⟩, hc, fun H18 a18 x18 e18 => ?_⟩
      have x18 := x18.up
      refine ⟨a18, rfl, ⟨_, SqL.of e18⟩, fun D3 hD3 => lcP (T := tK K) w_list hD3 (by rw [lo]; omega) (fun _ x => x.seq (SqL.of e18)) (fun i => .str (sg (sgm l ss ((own l c).getD i 0)))) ?_ fun H19 x19 e19 => ?_⟩
      · intro i x H' hi hy x1 Q q
        obtain ⟨rfl, ho⟩ := at_ hy
        have ho1 := ((own_mem W hc).mp (List.mem_of_getElem? ho)).1
        have M1 := (M.xt x18).xt x1
        generalize (own l c).getD i 0 = y at q ho1 ⊢
        exact ⟨_, rfl, _, rfl, _, rfl, d, .ref (ra y), rfl, M1.g ho1, ra y, .int (cn true l y : Nat), rfl, dgS (M1.r y ho1) rec1_number, S ss, _, sgm l ss y, rfl, rfl, lss, atI_nat (sgm_at W hs ho1), q _ .refl⟩
      have e19 : H19 D3 = some (.lst (((own l c).map (sgm l ss)).map fun z => V.str (sg z))) := by
        rw [e19, lo, List.map_map]
        refine congrArg (fun z => some (HO.lst z)) ?_
        refine List.ext_getElem (by simp) fun i h1 h2 => ?_
        simp at h1 h2
        simp [List.getD_eq_getElem?_getD, List.getElem?_eq_getElem h1]
      have yy := x18.trans x19
      have hk := hk.xt yy
      have M := M.xt yy
      have ea := yy.lst ea
      have eD := yy.lst eD
      have e15 := yy.lst e15
      have xb := xb.trans yy
      clear yy x18 x19 e18
      -- the first child
      obtain ⟨dm, uw, tw, em⟩ := kk hk
      refine ⟨_, rfl, u, _, _, rfl, em, rfl, _, rfl, _, rfl, u, l, ss, _, _, rfl, hk, lsg, fun j' c' ej hj' ec _ H20 x20 => ?_, fun hb => absurd hc (hb c rfl), fun _ _ _ bad => absurd hoksc (by rw [bad sc rfl]; decide)⟩
      obtain rfl := sg_inj ec
      obtain rfl : c = j' := by omega
      have hk := hk.xt x20
      have M := M.xt x20
      have ea := x20.lst ea
      have eD := x20.lst eD
      have e15 := x20.lst e15
      have e19 := x20.lst e19
      have xx := xb.trans x20
      clear xb x20 em
      refine ⟨_, rfl, by exact (by decide : 1 ≤ sizeLine), fun p1 n1 => ?_⟩
      generalize hH : upd _ p1 _ = G1
      have yN := newE (lo := True) (T := tK K) hH n1
      have e_p1 := atE hH
      clear hH
      have ea := yN.lst ea
      have eD := yN.lst eD
      have e15 := yN.lst e15
      have e19 := yN.lst e19
      have xx := xx.trans yN
      clear yN
      have lch := chBy_sub (s := ss) (j := c) (c := sc) (show l.length ≤ 2000 by omega)
      refine ⟨_, _, _, _, rfl, rfl, e15, e_p1, by rw [List.length_map]; exact Nat.le_trans (show _ ≤ 2001 by simp; omega) (by decide), fun p2 n2 => ?_⟩
      generalize hH : upd _ p2 _ = G2
      have yN := newE (lo := True) (T := tK K) hH n2
      have e_p2 := atE hH
      clear hH
      have ea := yN.lst ea
      have eD := yN.lst eD
      have e15 := yN.lst e15
      have e19 := yN.lst e19
      have xx := xx.trans yN
      clear yN
      have e0 : atI (((chBy l ss c sc).map fun i : Nat => V.int i) ++ [V.non]) 0 = some (on (chBy l ss c sc)[0]?) := by
        refine atI_nat (j := 0) ?_
        cases chBy l ss c sc with
        | nil => rfl
        | cons y L => rfl
      refine ⟨p2, _, 0, _, rfl, rfl, SqL.of e_p2, e0, scal_on _ _, _, rfl, ite2 (fun h => (nself h).elim) fun _ => ?_⟩
      -- how often
      have hk := hk13.xt xx
      obtain ⟨dm, uw, tw, em⟩ := kk hk
      refine ⟨_, rfl, u, _, _, rfl, em, rfl, _, rfl, _, rfl, u, l, ss, _, _, rfl, hk, lsg, fun j' c' ej hj' ec _ H21 x21 => ?_, fun hb => absurd hc (hb c rfl), fun _ _ _ bad => absurd hoksc (by rw [bad sc rfl]; decide)⟩
      obtain rfl := sg_inj ec
      obtain rfl : c = j' := by omega
      have ea := x21.lst ea
      have eD := x21.lst eD
      have e19 := x21.lst e19
      have xx := xx.trans x21
      clear x21 em hk e_p1 e_p2 n1 n2
      have ecnt : ((((own l c).map (sgm l ss)).map fun z => V.str (sg z)).countP fun z => eqV z (.str (sg sc))) = ((own l c).map (sgm l ss)).count sc := by
        rw [List.countP_map]
        unfold List.count
        refine congrArg (fun f => List.countP f _) (funext fun z => ?_)
        show (sg z == sg sc) = (z == sc)
        rw [Bool.eq_iff_iff, beq_iff_eq, beq_iff_eq]
        exact ⟨sg_inj, fun h => by rw [h]⟩
      have eflat : (((own l c).map (sgm l ss)).map fun z => V.str (sg z)).all flatV = true := by
        rw [List.all_map, List.all_eq_true]
        exact fun _ _ => rfl
      refine ⟨_, rfl, .inl ⟨rfl, _, SqL.of e19⟩, _, rfl, D3, _, _, rfl, rfl, SqL.of e19, rfl, eflat, rfl, _, rfl, ite2 (fun h => ?_) fun _ => ?_⟩
      · have h2 : (!decide (V.int ((((own l c).map (sgm l ss)).count sc : Nat) : Int) = V.int (((((own l c).map (sgm l ss)).map fun z => V.str (sg z)).countP fun z => eqV z (.str (sg sc)) : Nat) : Int))) = true := h
        rw [ecnt] at h2
        exact (nself h2).elim
      clear e19 e15 ecnt eflat
      -- the path
      have wl : ∀ {y : Nat}, l[y]? = some true → (wy l ss y).length ≤ 201 := fun h => wy_len W h
      have wok : ∀ {y : Nat}, l[y]? = some true → ∀ z ∈ wy l ss y, okSg z = true := fun {y} h z hz => by
        unfold wy at hz
        obtain ⟨v, hv, rfl⟩ := List.mem_map.mp hz
        have hv1 : l[v]? = some true := by
          rcases List.mem_append.mp hv with hv | hv
          · exact (stk_mem hv).2
          · rw [List.mem_singleton.mp hv]
            exact h
        exact hok _ (List.mem_of_getElem? (sgm_at W hs hv1))
      have lw : ∀ {y : Nat}, (S (wy l ss y)).length = (wy l ss y).length := S_len _
      have lsg1 : (sg sc).length = 1 := S_len [sc]
      have epos0 : (pos true l)[0]? = some 0 := by
        have hm : 0 ∈ pos true l := mem_pos.mpr W.first
        obtain ⟨q, hq⟩ := List.getElem?_of_mem hm
        have := (pos_at hq).2
        have h1 : cn true l 0 = 0 := rfl
        obtain rfl : q = 0 := by omega
        exact hq
      refine ⟨_, rfl, _, rfl, _, _, rfl, rfl, ⟨by decide, by decide, by decide⟩, _, _, rfl, rfl, (wide_div (b := 17) (by decide) (by decide) (by decide) (by decide)), _, rfl, _, _, rfl, rfl, hL, D, _, _, .str (S (wy l ss c2)), rfl, rfl, SqL.of eD, at2, ?_⟩
      refine ⟨_, rfl, _, rfl, _, _, rfl, rfl, ⟨by decide, by decide, by decide⟩, _, _, rfl, rfl, (wide_div (b := 17) (by decide) (by decide) (by decide) (by decide)), _, rfl, _, _, rfl, rfl, hL, D, _, _, .str (S (wy l ss c2)), rfl, rfl, SqL.of eD, at2, _, rfl, _, _, rfl, rfl, by show (S (wy l ss c2)).length + (sg sc).length ≤ _; rw [lw, lsg1]; exact tfits (by have := wl hc2; omega), ?_⟩
      refine ⟨_, rfl, _, rfl, D, _, 0, .str (S (wy l ss 0)), rfl, rfl, SqL.of eD, atI_nat (j := 0) (by rw [List.getElem?_map, epos0]; rfl), _, _, rfl, rfl, by show (sg sc).length + (S (wy l ss 0)).length ≤ _; rw [lw, lsg1]; exact tfits (by have := wl W.first; omega), by exact (by decide : 3 ≤ sizeLine), fun p3 n3 => ?_⟩
      generalize hH : upd _ p3 _ = G3
      have yN := newE (lo := True) (T := tK K) hH n3
      have e_p3 := atE hH
      clear hH
      have ea := yN.lst ea
      have eD := yN.lst eD
      have xx := xx.trans yN
      clear yN
      obtain ⟨t, ht3, gt, t0⟩ : ∃ t, atI [V.str (S (wy l ss c2)), .str (S (wy l ss c2) ++ sg sc), .str (sg sc ++ S (wy l ss 0))] ((i : Int) % 3) = some (.str (S t)) ∧ goodT t ∧ t ≠ [] := by
        have h2 := wl hc2
        have h0 := wl W.first
        have k2 := wok hc2
        have k0 := wok W.first
        have hne : wy l ss c2 ≠ [] := by unfold wy; simp
        have one : ∀ z ∈ [sc], okSg z = true := fun z hz => by rw [List.mem_singleton.mp hz]; exact hoksc
        rcases (show (i : Int) % 3 = 0 ∨ (i : Int) % 3 = 1 ∨ (i : Int) % 3 = 2 by omega) with h | h | h <;> rw [h]
        · exact ⟨wy l ss c2, atI_nat (j := 0) rfl, ⟨by omega, k2⟩, hne⟩
        · refine ⟨wy l ss c2 ++ [sc], atI_nat (j := 1) (congrArg (fun z => some (V.str z)) (S_app _ _)), ⟨by rw [List.length_append]; simp; omega, fun z hz => ?_⟩, by simp⟩
          rcases List.mem_append.mp hz with hz | hz
          · exact k2 z hz
          · exact one z hz
        · refine ⟨[sc] ++ wy l ss 0, atI_nat (j := 2) (congrArg (fun z => some (V.str z)) (S_app _ _)), ⟨by rw [List.length_append]; simp; omega, fun z hz => ?_⟩, by simp⟩
          rcases List.mem_append.mp hz with hz | hz
          · exact one z hz
          · exact k0 z hz
      have hk := hk13.xt xx
      obtain ⟨dm, uw, tw, em⟩ := kk hk
      have htl := gt.1
      refine ⟨_, rfl, _, _, rfl, rfl, (show (0 : Int) < 3 by decide), p3, _, _, .str (S t), rfl, rfl, SqL.of e_p3, ht3, ?_⟩
      refine ⟨_, rfl, u, _, _, rfl, em, rfl, _, rfl, u, l, ss, t, rfl, hk, by omega, fun _ H22 a22 x22 e22 => ?_, fun h => absurd ⟨gt, t0⟩ h⟩
      have ea := x22.lst ea
      have eD := x22.lst eD
      have xx := xx.trans x22
      clear em e_p3 x22 n3
      have ent : ((n : Int)).toNat = (pos true l).length := by omega
      refine ⟨_, rfl, _, rfl, by omega, by omega, fun D5 hD5 => lcF (T := tK K) w_range hD5 (by omega) (fun _ _ => trivial) (fun i => wy l ss ((pos true l).getD i 0) == t) (fun i => .int ((pos true l).getD i 0 : Nat)) ?_ ?_ fun H23 x23 e23 => ?_⟩
      · intro i x H' hi hy x1 Q q
        rw [ent] at hi
        rw [show (0 : Int) + (i : Int) = (i : Int) by omega] at hy
        subst hy
        have hy1 : (pos true l)[i]? = some ((pos true l).getD i 0) := by rw [List.getD_eq_getElem?_getD, List.getElem?_eq_getElem hi]; rfl
        have q := q H' .refl
        generalize (pos true l).getD i 0 = y at q hy1 ⊢
        have e5 : decide (V.str (S (wy l ss y)) = V.str (S t)) = (wy l ss y == t) := by
          rw [Bool.eq_iff_iff, decide_eq_true_eq, beq_iff_eq]
          constructor
          · intro h
            injection h with h
            exact S_inj h
          · intro h
            rw [h]
        rw [← e5] at q
        exact ⟨_, rfl, _, rfl, D, _, _, .str (S (wy l ss y)), rfl, rfl, SqL.of (x1.lst eD), atI_nat (by rw [List.getElem?_map, hy1]; rfl), _, rfl, rfl, _, rfl, q⟩
      · intro i x H' hi hy _ x1 Q q
        rw [ent] at hi
        rw [show (0 : Int) + (i : Int) = (i : Int) by omega] at hy
        subst hy
        have hy1 : (pos true l)[i]? = some ((pos true l).getD i 0) := by rw [List.getD_eq_getElem?_getD, List.getElem?_eq_getElem hi]; rfl
        exact ⟨_, rfl, _, rfl, a2, _, _, .int ((pos true l).getD i 0 : Nat), rfl, rfl, SqL.of (x1.lst ea), atI_nat (by rw [List.getElem?_map, hy1]; rfl), q _ .refl⟩
      have e23 : H23 D5 = some (.lst ((nodesOf l ss t).map fun i : Nat => V.int i)) := by
        rw [ent, kept_gen (0 : Nat) (fun y => wy l ss y == t) (fun y : Nat => V.int y) (pos true l)] at e23
        exact e23
      exact neD_same (dp_nats (x23.lst e22)) (dp_nats e23) sh_ints ⟨_, rfl, iteF ⟨xx.trans x23, _, _, _, _, _, _, _, _, _, rfl⟩⟩
    · intro σ Ha hp
      obtain ⟨xa, t10, t11, t12, t13, t14, t15, t16, t17, t18, rfl⟩ := hp
      have hk := hk13.xt xa
      have M := M13.xt xa
      have x0a := x013.trans xa
      refine ⟨_, rfl, _, rfl, _, rfl, _, rfl, d, .ref (ra 0), rfl, M.g W.first, ra 0, .int (en l 0 : Nat), rfl, dgS (M.r 0 W.first) rec1_end, u, l, ss, en l 0, rfl, hk, ((ends_en W W.first).last W W.first).2.1, by omega, W, x0a.tb hT, fun Hz xz => ⟨_, rfl, iteF ⟨x0a.trans xz, _, rfl, rfl⟩⟩⟩
end
end Tw

set_option maxHeartbeats 0
namespace Tw
open PySem PySem.Spec PyProof.Rows L2 LamX
theorem law_at {w : World} {K : PySem.W.Frag} {mg : Str → Option Value} {fa : Addr} {h : Heap} (X : K.In h) (G : h.Ns mainGlobals mg) (hfa : mg ("law" : Str) = some (.ref fa)) (c : He.SaysX faL fnL [] tf exL w h K) :
    LamX.LawAtS PySem.Challenge.rw_tersewood_k90_whole_marked w K (L2N.CX PySem.Challenge.rw_tersewood_k90_whole_marked.prog w) 214 63 "_law_script" mg fa h := by
  have T : Tx K mg := ⟨⟨h, X, G, c.t.d⟩, c.more⟩
  have e := hfa.symm.trans T.g_law
  cases e
  refine ⟨fdOf K ("law", none), tf.map (He.cT K), spLaw K, fun p hp => ?_, fun p hp => ?_, fun p hp => ?_, fun s u => T.F_law.bindsA (ps := ["_law_script"]) (fun _ _ _ _ _ _ us hl => match us, hl with | [_], _ => rfl) s [u] rfl, fun H a ns hl hb hT hS => ?_, fun base KB GB hB => ok_law T (hB _ (List.mem_map_of_mem (f := He.cT K) (show (("_law_refused_right", none) : He.Defn) ∈ tf by decide +kernel)))⟩
  · obtain ⟨d, hd, rfl⟩ := List.mem_map.mp hp
    exact c.empty d hd
  · obtain ⟨d, hd, rfl⟩ := List.mem_map.mp hp
    exact c.out d hd
  · obtain ⟨d, hd, rfl⟩ := List.mem_map.mp hp
    exact PySem.W.codeHd_of_K X (c.hd d hd)
  · refine spLaw_of hS hl hb fun p hp => ?_
    unfold tK at hp
    simp only [List.mem_cons, List.not_mem_nil, or_false] at hp
    subst hp
    · exact TabS.nil (hT _ (List.mem_map_of_mem (f := He.cT K) (show (("_law_refused_right", none) : He.Defn) ∈ tf by decide +kernel)))
end Tw
open PySem PySem.W PySem.Calls PyProof.Rows
theorem PySem.Challenge.cw_tersewood_k90_whole_marked_holds : PySem.Challenge.rw_tersewood_k90_whole_marked.Holds := by
  w_on; o_law
  refine HandSHeadRun.head_any (r := OpenLaw.row PySem.Challenge.rw_tersewood_k90_whole_marked) (q := view (OpenLaw.row PySem.Challenge.rw_tersewood_k90_whole_marked).prog [53]) (H := Tw.hk) (ob := Tw.ob) (M := 30000) (loose := Tw.loose) (d := HandSHeadRun.topDef (OpenLaw.row PySem.Challenge.rw_tersewood_k90_whole_marked).prog 53) (kwd := []) Tw.ob_eq
    (by kernel_rfl) (fun s => by kernel_rfl) Tw.run (by kernel_rfl) (by kernel_rfl) (by kernel_rfl) (by rfl) (by first | assumption | decide +kernel) (by decide +kernel) ⟨rfl, rfl, rfl, rfl, rfl, by decide +kernel⟩ ?hw ?hc
  case hw => w_witness2
  case hc =>
    refine LamX.walk_ofTsE (l := PySem.Challenge.rw_tersewood_k90_whole_marked) (n := 63) (k := 214) (x := "_law_script") (CX := fun w => L2N.CX PySem.Challenge.rw_tersewood_k90_whole_marked.prog w) rfl (by decide) (by kernel_rfl) ⟨rfl, by decide, by decide⟩ ?F (fun w H s e s2 z => ?_)
    · intro w mg fa h Y G hmg0
      obtain ⟨K, KX, c⟩ := Y
      have hmg : mg ("law" : PySem.Str) = some (.ref fa) := by
        have e : (HandSHeadRun.topDef (OpenLaw.row PySem.Challenge.rw_tersewood_k90_whole_marked).prog 53).name = ("law" : PySem.Str) := by kernel_rfl
        rw [← e]
        exact hmg0
      exact ⟨K, KX, Tw.law_at KX G hmg c⟩
    · obtain ⟨_, _, _, _, _, _, _, _, _, _, _, _, z⟩ := z
      exact z
