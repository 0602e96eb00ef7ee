import PyProof.Rows.All
import Wide.All
import OpenK.AllK
import Wide.FinOn
import KE.KExcSuper
import KE.KExcIs
import HandS.ForMost
import HandS.ForExc
import HandS.ExcInit
import HandS.ExcField
import HandS.IsInst
import HandS.Walk
import PySem.Challenge.RW_foreaft_k02_machines_are_checked
import HandS.ExcIs
import HandS.Codes
import HandS.WordsExc
set_option Elab.async false
set_option maxRecDepth 100000
set_option maxHeartbeats 4000000
/-! The error class: its __init__ says super().__init__(reason) and keeps the reason. -/
namespace Fk
open PySem PySem.Spec PyProof.Rows L2
/-! ### the text by places -/
def top (i : Nat) : Stmt := PySem.Challenge.pw_foreaft_k02_machines_are_checked.main.body.getD i (.Pass ⟨0, 0, 0, 0⟩)
abbrev sErr : Stmt := inClass (top 2) 0
abbrev fdE (doc pm : Value) (an : Option Addr) (cda : Addr) (ct : Value) (cc : Addr) : FuncData :=
  PySem.W.ksFn "__init__" "MachineError.__init__" (defArgs sErr) (defBody sErr) (defScope sErr) .none .none doc pm an (.ref cda) ct cc
section
variable {P : Program} {w : World} {K : PySem.W.Frag} {mg : Str → Option Value} {base : Heap}
/-- what the written part says of the error class at C and of its __init__ at fI -/
structure SupT (P : Program) (K : PySem.W.Frag) (mg : Str → Option Value) (C fI : Addr) (fd : FuncData) : Prop where
  ox : OexC K C
  noN : PySem.W.findIn K (.ref C) "reason" = some none
  fn : ∃ (oc : Value) (od : Option Addr) (doc pm : Value) (an : Option Addr) (cda : Addr) (ct : Value) (cc : Addr) (osl : Array (Option Value)),
    fd = fdE doc pm an cda ct cc ∧
    K.lookup fI = some ⟨oc, od, .func fd, osl⟩ ∧ PySem.W.codeIn K (.ref cda) "MachineError.__init__" = true ∧
    (∃ (ccl : Value) (cdd : Option Addr) (fvs : Array Value) (ccs : Array (Option Value)) (file : Str) (tf : Tok), K.lookup cda = some ⟨ccl, cdd, .fields fvs, ccs⟩ ∧ fvs[2]? = some (.str file tf) ∧ ((P.main.file : Str) == file) = true) ∧
    ∃ (cl : Value) (cld : Option Addr) (csl : Array (Option Value)), K.lookup cc = some ⟨cl, cld, .cell (some (.ref C)), csl⟩
  sub : PySem.W.mroIn K C (.ref C) = some true
  noS : mg "super" = none
  topS : (P.main.scope.names.lookup ("super" : Str)).isSome = false
  any : PySem.W.nsIn K cStatics "thirdparty.any" = some none
  hm : PySem.W.ks_superIn K C C "__init__" = some (some (.builtin "ValueError.__init__"))
  hB : PySem.W.subIn K (.ref C) (.type "ValueError") = some true
/-- the promise: the reason is kept in the error's own dict -/
def spErr (C : Addr) : Sp := fun vs H Q _ => ∃ (a : Addr) (v : V), vs = [.ref a, v] ∧ H a = some (exo a C none) ∧
  ∀ dx, H dx = none → dx ≠ a → Q .non (upd (upd H dx (exd dx [("reason", v)])) a (exo a C (some dx)))
/-- the context of such a def's body: it closes over one cell -/
def cxE (P : Program) (w : World) (K : PySem.W.Frag) (mg : Str → Option Value) (base : Heap) (fd : FuncData) (f : Addr) (A : Around) (outer : List Env) (s : Shared) (H : Hp) (E : XK) : Cx where
  prog := P
  w := w
  K := K
  mg := mg
  base := base
  A := A.deeper (callEnv fd s.heap.objs.size f)
  N := ["self", "reason"]
  s_0 := s
  H_0 := H
  env := callEnv fd s.heap.objs.size f
  outer := outer
  stack := callEnv fd s.heap.objs.size f :: outer
  ex := []
  calm := true
  fn := fun _ => false
  pn := []
  xe := fun e s' => wpAny (model P w) (A.deeper (callEnv fd s.heap.objs.size f)) (leaving (callEnv fd s.heap.objs.size f) e) (fun _ s'' => CX0 outer H s E e s'') (fun e' s'' => CX0 outer H s E e' s'') s'
theorem look_one {x y : Str} {c d : Addr} (h : List.lookup x [(y, d)] = some c) : x = y ∧ c = d := by
  rw [List.lookup_cons] at h
  cases hb : x == y with
  | true =>
    rw [hb] at h
    exact ⟨beq_iff_eq.mp hb, (Option.some.inj h).symm⟩
  | false =>
    rw [hb] at h
    cases h
theorem free_class {x : Str} (h : (defScope sErr).names.lookup x = some .cell ∨ (defScope sErr).names.lookup x = some .free) : x = "__class__" := by
  have key : ∀ k, (x, k) ∈ (defScope sErr).names → k = .cell ∨ k = .free → x = "__class__" := fun k hm hk => by
    have hm' : (x, k) ∈ [(Str.ofString "self", NameKind.local), (Str.ofString "reason", NameKind.local), (Str.ofString "__class__", NameKind.free), (Str.ofString "super", NameKind.globalImplicit)] := hm
    rcases List.mem_cons.mp hm' with e | hm'
    · obtain ⟨_, e2⟩ := Prod.mk.inj e
      subst e2
      rcases hk with z | z <;> cases z
    rcases List.mem_cons.mp hm' with e | hm'
    · obtain ⟨_, e2⟩ := Prod.mk.inj e
      subst e2
      rcases hk with z | z <;> cases z
    rcases List.mem_cons.mp hm' with e | hm'
    · exact (Prod.mk.inj e).1
    rcases List.mem_cons.mp hm' with e | hm'
    · obtain ⟨_, e2⟩ := Prod.mk.inj e
      subst e2
      rcases hk with z | z <;> cases z
    · cases hm'
  rcases h with h | h
  · exact key _ (PySem.mem_of_lookup h) (.inl rfl)
  · exact key _ (PySem.mem_of_lookup h) (.inr rfl)
theorem inv_err {doc pm ct : Value} {an : Option Addr} {cda cc f : Addr} {fd : FuncData} {A : Around} {outer : List Env} {s : Shared} {H : Hp} {E : XK} {a : Addr} {v : V} {u : Value} {h0 : Heap} {tk : Nat} {o : Obj} {w0 : Option Value}
    (efd : fd = fdE doc pm an cda ct cc)
    (hd : A.handled = none) (e0 : Env0 P w K mg base A outer s H) (r : RelV v u) (hcc : base.get? cc = some o) (hoc : o.data = .cell w0)
    (hns : h0.Ns s.heap.objs.size (fun x => ([("self", Value.ref a), ("reason", u)] : List (Str × Value)).reverse.lookup x)) (hk : ∀ b o, s.heap.get? b = some o → h0.get? b = some o) :
    Inv (cxE P w K mg base fd f A outer s H E) [] [some (.ref a), some v] H { s with heap := h0, toks := tk } := by
  subst efd
  have noA : ∀ b : Addr, b ∉ ([] : List Addr) := fun b z => absurd z (by simp)
  refine ⟨⟨e0.mod, rfl, rfl, rfl, Nat.le_refl _, fun y z c h1 h2 => ?_, fun y hy => ?_, fun y c z _ => absurd (show false = true from z) Bool.false_ne_true, fun _ => hd, Around.frames_deeper e0.frames, .inr ⟨rfl, rfl⟩,
      fun b z => absurd z (noA b), e0.bs, e0.bsz, fun b _ _ => noA b, fun b z => absurd z (noA b), e0.funs, e0.frf⟩,
    rfl, e0.bare, Un.kept hk, ⟨_, hns, fun i y v' h1 h2 _ => ?_⟩, fun y c h => ?_, e0.hok.fresh (Nat.le_refl _), fun y c h => ?_, fun p hp => absurd (show p ∈ ([] : List (Addr × Obj)) from hp) (by simp), e0.hok.kept hk, rfl⟩
  · have e1 := look_one (show List.lookup y [(("__class__" : Str), cc)] = some c from h1)
    have e2 := look_one (show List.lookup z [(("__class__" : Str), cc)] = some c from h2)
    rw [e1.1, e2.1]
  · have e := free_class (x := y) hy
    subst e
    exact ⟨cc, by rfl⟩
  · match i, h1, h2 with
    | 0, h1, h2 =>
      cases h1
      cases h2
      exact ⟨_, rfl, .inl ⟨by rfl, by rfl⟩⟩
    | 1, h1, h2 =>
      cases h1
      cases h2
      exact ⟨u, r, .inl ⟨by rfl, by rfl⟩⟩
    | i + 2, h1, h2 => cases h1
  · have e := look_one (show List.lookup y [(("__class__" : Str), cc)] = some c from h)
    obtain ⟨_, rfl⟩ := e
    exact ⟨w0, o, hk _ _ (e0.bs _ _ hcc).1, hoc⟩
  · have e := look_one (show List.lookup y [(("__class__" : Str), cc)] = some c from h)
    obtain ⟨_, rfl⟩ := e
    exact (e0.bs _ _ hcc).2
/-- the bound __init__ of ValueError, called: nothing is told of the error's args -/
theorem call_mw {X : Cx} {pins : List (Addr × Obj)} {σ : L2.St} {H : Hp} {s : Shared} {a C u : Addr} {ws : List Value} {Q : Value → Shared → Prop} {E : Value → Shared → Prop} {A : Around} (T : OexC X.K C) (I : Inv X pins σ H s) (e : H a = some (exo a C none))
    (hu : s.heap.get? u = some (PySem.W.kxs_mw "ValueError.__init__" a)) (hl : ws.length ≤ sizeLine) (h : ∀ s', Inv X pins σ H s' → Q .none s') : wpAny (model X.prog X.w) A (call (.ref u) ws) Q E s := by
  obtain ⟨nm, q, N, bs, bm, sn, sub, ab, col, dd, k0, k1, k2, k3, k5, hC, hbm⟩ := T.cls
  obtain ⟨t1, ho⟩ := exo_at I.hok e
  have hCs := I.kIn _ _ hC
  obtain ⟨hp, g, d, t, os⟩ := s
  have FB := F.excBase_ValueError
  refine wpAny_call (codeAny_of_tree (show wpAny _ A.in1 (callAny (.ref u) ⟨ws, []⟩) _ _ _ from ?_))
  unfold callAny
  refine wpAny_bind (wpAny_load hu ?_)
  have c1 : (Value.type "method-wrapper" == Value.type "method" || Value.type "method-wrapper" == Value.type "builtin_function_or_method" || Value.type "method-wrapper" == Value.type "method-wrapper") = true := by decide
  simp only [PySem.W.kxs_mw, c1, if_true]
  refine PySem.W.KFB.if_so (by decide) (wpAny_bind (PySem.W.check_bound_init FB.toExcCallFacts hCs ho rfl (wpAny_bind (wpAny_pure (wpAny_pure ⟨plainId_quiet FB.init.plain _, codeAny_builtin FB.initEntry ?_⟩)))))
  refine PySem.W.exc_init_tree (cls := .ref C) (t0 := t1) (dv := none) (c2 := .none) (c3 := .none) (b4 := .bool false) ho hl fun h' k hx _ => ?_
  have J := I.write (t' := t) (x := a) (e := a) (o := exo a C none) (by rw [e]; exact True.intro) (.inl rfl) k ⟨_, hx⟩ (exo_ok hx)
  have eu : upd H a (exo a C none) = H := by
    funext b
    by_cases hb : b = a
    · rw [hb, upd_same, e]
    · rw [upd_ne hb]
  rw [eu] at J
  exact h _ J
theorem ok_err {C fI : Addr} {fd : FuncData} (T : SupT P K mg C fI fd) : FnOk P w K mg base CX0 1 fI fd ["self", "reason"] (spErr C) := by
  obtain ⟨oc, od, doc, pm, an, cda, ct, cc, osl, efd, lk, hcd, ⟨ccl, cdd, fvs, ccs, file, tf, hcode, hvs, hfile⟩, cl, cld, csl, hcell⟩ := T.fn
  obtain ⟨nm, q, N, bs, bm, sn, sub, ab, col, dd, k0, k1, k2, k3, k5, hC, hbm⟩ := T.ox.cls
  subst efd
  refine ⟨fun vs H Q E h => ?_, fun A outer s H args us vs Q E hr e0 hb r hsp => ?_⟩
  · obtain ⟨a, v, rfl, _⟩ := h
    rfl
  obtain ⟨a, v, rfl, hx, hk⟩ := hsp
  obtain ⟨u1, rfl, r1⟩ : ∃ u1, us = [Value.ref a, u1] ∧ RelV v u1 := by
    cases r with
    | cons ra rr =>
      cases rr with
      | cons rv rn =>
        cases rn
        cases ra
        exact ⟨_, rfl, rv⟩
  have KX : K.In s.heap := e0.mod.kin.keeps fun b o e => (e0.bs b o e).1
  have lim : s.heap.NoLimit := e0.mod.nolimit.keeps fun b o e => (e0.bs b o e).1
  have eb : ([("self", Value.ref a), ("reason", u1)] : List (Str × Value)) = (["self", "reason"] : List Str).zip [Value.ref a, u1] := rfl
  have hcl : PySem.W.clsIn K C = some { name := nm, bases := bs, mro := .ref C :: bm, ns := N, qualname := q, hasDict := true, slotNames := sn, subclasses := sub, abstract := ab, collection := col, hasDel := false } := by
    unfold PySem.W.clsIn
    rw [hC] <;> rfl
  have hsup : PySem.W.alongIn K "__init__" (((Value.ref C :: bm).dropWhile (· != .ref C)).drop 1) = some (some (.builtin "ValueError.__init__")) := by
    have z := T.hm
    unfold PySem.W.ks_superIn at z
    rw [hcl] at z
    exact z
  refine PySem.ks_codeAny_call_defAt (body := defBody sErr) (binds := [("self", Value.ref a), ("reason", u1)]) hr.depth (KX _ _ lk) rfl lim (PySem.W.codeRec_of KX hcd) rfl hb ?hcell ?hloc (fun h0 hns hkeep => ?_) rfl rfl rfl
  case hcell =>
    show ∀ x ∈ (defScope sErr).names, x.2 ≠ .cell
    decide +kernel
  case hloc =>
    intro y hy
    rcases List.mem_cons.mp hy with e | hy
    · subst e
      rfl
    rcases List.mem_cons.mp hy with e | hy
    · subst e
      rfl
    · cases hy
  have hkb : base.get? cc = some ⟨cl, cld, .cell (some (.ref C)), csl⟩ := e0.mod.kin _ _ hcell
  have I : Inv (cxE P w K mg base (fdE doc pm an cda ct cc) fI A outer s H E) [] [some (.ref a), some v] H { s with heap := h0, toks := s.toks + 2 } := inv_err (tk := s.toks + 2) rfl hr.hd e0 r1 hkb rfl hns hkeep
  obtain ⟨t1, hxo⟩ := exo_at I.hok hx
  have KX0 : K.In h0 := KX.keeps hkeep
  show PySem.wpAt (model P w) (A.deeper (callEnv (fdE doc pm an cda ct cc) s.heap.objs.size fI)) (.func (defBody sErr) (callEnv (fdE doc pm an cda ct cc) s.heap.objs.size fI)) (execs (defBody sErr) (callEnv (fdE doc pm an cda ct cc) s.heap.objs.size fI)) _ (cxE P w K mg base (fdE doc pm an cda ct cc) fI A outer s H E).xe { s with heap := h0, toks := s.toks + 2 }
  -- super()
  refine PySem.ks_wpAt_execs_cons (PySem.ks_wpAt_Expr_any (PySem.ks_wpAt_MethodCall ?_) rfl (by first | rfl | with_unfolding_all rfl))
  refine PySem.ks_wpAt_super_base (f := fI) (cc := cda) (oc := ⟨ccl, cdd, .fields fvs, ccs⟩) (ar := (defArgs sErr).args.getD 0 ⟨"", none, ⟨0, 0, 0, 0⟩⟩) (vs := fvs) (file := file) (tf := tf) rfl rfl (by decide +kernel) rfl (KX0 _ _ lk) rfl rfl rfl (KX0 _ _ hcode) rfl hvs hfile T.topS ?_
  obtain ⟨mb, hb1, hb2⟩ := e0.mod.blt
  have kb : ∀ b o, base.get? b = some o → h0.get? b = some o := fun b o e => hkeep _ _ (e0.bs b o e).1
  refine PySem.W.ks_loadName_global rfl rfl (PySem.Calls.loadGlobal_builtin (e0.mod.glob.keeps kb) T.noS (hb1.keeps kb) ((hb2 _ (by decide +kernel)).trans (by first | boot_by_name | rfl | kernel_rfl)) ⟨rfl, ?_⟩)
  refine wpAny_loadName_free (c := cc) rfl rfl rfl ⟨_, kb _ _ hkb, rfl⟩ ?_
  refine wpAny_loadName_local rfl rfl hns (v := .ref a) rfl ?_
  refine PySem.ks_wpAny_isType_cls (KX0 _ _ hC) rfl ⟨rfl, ?_⟩
  refine PySem.ks_wpAny_call_super (KX0 _ _ hC) rfl hxo rfl (fun c e => by cases e) (PySem.W.looks_mroIn KX0 T.sub) (fun h1 hso hk1 => ?_)
  have I1 : Inv (cxE P w K mg base (fdE doc pm an cda ct cc) fI A outer s H E) [] [some (.ref a), some v] H { s with heap := h1, toks := s.toks + 2 } := I.kept (t' := s.toks + 2) hk1
  have KX1 : K.In h1 := KX0.keeps hk1
  have hx1 := hk1 _ _ hxo
  have J1 : PySem.W.InstAt h1 a (HandSPX.excO C t1) C none := ⟨hx1, rfl, rfl, trivial⟩
  -- the bound __init__
  refine PySem.W.kxs_getMethod PySem.W.kxs_ValueError hso (PySem.W.looks_opaque KX1 T.any) (l₀ := Value.ref C :: bm) (fun A Q E s k q => wpAny_bind ((PySem.W.looks_clsIn KX1 hcl) A _ E s k (wpAny_pure q))) rfl KX1 hsup
    (J1.type.andThen (PySem.W.looks_subIn KX1 T.hB)) (PySem.W.ks_ne KX1 J1 hcl) (by decide +kernel) ?_
  have hmw : (h1.push (PySem.W.kxs_mw "ValueError.__init__" a)).get? h1.objs.size = some (PySem.W.kxs_mw "ValueError.__init__" a) := Heap.get?_push_at rfl rfl
  have I2 : Inv (cxE P w K mg base (fdE doc pm an cda ct cc) fI A outer s H E) [(h1.objs.size, PySem.W.kxs_mw "ValueError.__init__" a)] [some (.ref a), some v] H { s with heap := h1.push (PySem.W.kxs_mw "ValueError.__init__" a), toks := s.toks + 2 + 1 } := by
    have J : Inv (cxE P w K mg base (fdE doc pm an cda ct cc) fI A outer s H E) [] [some (.ref a), some v] H { s with heap := h1.push (PySem.W.kxs_mw "ValueError.__init__" a), toks := s.toks + 2 + 1 } := I1.kept (t' := s.toks + 2 + 1) fun b o e => Heap.get?_push_of_some _ e
    refine J.pins_of fun p hp => ?_
    obtain rfl : p = (h1.objs.size, PySem.W.kxs_mw "ValueError.__init__" a) := by simpa using hp
    refine ⟨hmw, I1.hok.fresh (Nat.le_refl _), Nat.ne_of_gt I1.lt, I1.nofs (Nat.le_refl _), fun v z => by cases z⟩
  obtain ⟨mF, FF⟩ := I2.fr
  have nL : h1.objs.size ≠ (cxE P w K mg base (fdE doc pm an cda ct cc) fI A outer s H E).env.locals := Nat.ne_of_gt I1.lt
  have nb : base.get? h1.objs.size = none := by
    cases z : base.get? h1.objs.size with
    | none => rfl
    | some o => exact absurd (Heap.lt_size (I1.bk _ _ z)) (Nat.lt_irrefl _)
  refine PySem.W.kxs_callWith1 (i := "ValueError.__init__") (x := a) (u := h1.objs.size) (news_at (g := base) (L := (cxE P w K mg base (fdE doc pm an cda ct cc) fI A outer s H E).env.locals) nL nb hmw) List.mem_cons_self ?_ (by rfl) (by rfl)
  have hpa : PA (cxE P w K mg base (fdE doc pm an cda ct cc) fI A outer s H E) [Expr.Name "reason" ⟨7, 25, 7, 31⟩] (tCons (tVar 1) tNil) := pa_cons (pv 1) pa_nil
  refine thn (hpa.run _ _ _ _ H (fun vs H' => vs = [v] ∧ H' = H) I2 ⟨v, rfl, rfl, rfl⟩) fun us s3 hh => ?_
  obtain ⟨vs, H3, I3, r3, evs, eH⟩ := hh
  subst evs
  rw [eH] at I3
  refine ⟨(I3.pin _ (List.mem_append_right _ List.mem_cons_self)).1, ?_⟩
  refine call_mw (X := cxE P w K mg base (fdE doc pm an cda ct cc) fI A outer s H E) T.ox I3 hx (I3.pin _ (List.mem_append_right _ List.mem_cons_self)).1 (by rw [← r3.length]; show 1 ≤ sizeLine; decide) fun s4 I4 => ?_
  -- self.reason = reason
  refine PySem.wpAt_of_wpAny ?_
  have hps : PSs (cxE P w K mg base (fdE doc pm an cda ct cc) fI A outer s H E) [Stmt.Assign [(Expr.Name "self" ⟨8, 8, 8, 12⟩).Attribute "reason" ⟨8, 8, 8, 19⟩] (Expr.Name "reason" ⟨8, 22, 8, 28⟩) ⟨8, 8, 8, 28⟩] (tOst K "reason" (tVar 0) (tVar 1)) := pss_one (ps_ost (pv 0) (pv 1))
  refine wpAny_mono (hps.run _ s4 _ _ { nx := fun _ H' => Q .non H', rt := Q } I4 ⟨v, rfl, .ref a, rfl, a, C, rfl, T.ox, T.noN, .inl ⟨hx, fun dx n ne => hk dx n ne⟩⟩) (fun fl s' hs => ?_) fun e s' z => z
  cases fl with
  | next =>
    obtain ⟨σ', H', J, q⟩ := hs
    exact ⟨.non, H', J.os, J.bare, J.base, J.hok, rfl, q⟩
  | ret u =>
    obtain ⟨v', σ', H', J, rv, q⟩ := hs
    exact ⟨v', H', J.os, J.bare, J.base, J.hok, rv, q⟩
  | brk =>
    obtain ⟨_, _, _, q⟩ := hs
    exact False.elim q
  | cont =>
    obtain ⟨_, _, _, q⟩ := hs
    exact False.elim q
end
end Fk
/-! A caught error with its own dict asked by isinstance; a class whose __init__ may raise, called. -/
namespace Fk
open PySem PySem.Spec PyProof.Rows L2
/-- isinstance(e, c), e the error that the suite holds (class cls, own dict d) -/
def rIsD (K : PySem.W.Frag) (D a : Addr) (cls : Value) (d : Option Addr) : List V → Hp → VK → Prop := fun xs H Q => ∃ (c : V) (cv : Value) (b : Bool) (dd : Addr) (fs : List (Str × V)),
  xs = [.ref a, c] ∧ cls = .ref D ∧ d = some dd ∧ H dd = some (.xd fs) ∧ (∀ u, RelV c u → u = cv) ∧ PySem.W.kitOne K (.ref D) cv = some b ∧ Q (.bl b) H
theorem call_isD {X : Cx} {a D : Addr} {oe : Obj} {cls : Value} {d : Option Addr} {pn : List (Addr × Obj)} (C : ExcC X.K D) (hz : Zc cls d oe) (hf : ∃ vs, oe.data = .fields vs) : CallR (X.suite a ((a, oe) :: pn)) (.builtin "isinstance") (rIsD X.K D a cls d) := by
  intro pins s σ H xs us Q I r h
  obtain ⟨c, cv, b, dd, fs, rfl, ecl, ed, hdd, hcv, e, q⟩ := h
  subst ecl
  subst ed
  cases r with
  | cons rx rr =>
    cases rr with
    | cons rt rn =>
      cases rn
      cases rx
      obtain rfl := hcv _ rt
      have hget := (I.pin (a, oe) (List.mem_append.mpr (.inl List.mem_cons_self))).1
      obtain ⟨vs, hv⟩ := hf
      obtain ⟨mA, ⟨od, es, ep, ho, hrest⟩, _⟩ := (show ObjOk X.prog X.w H s.heap dd (.xd fs) from I.hok dd _ hdd)
      have J : PySem.W.InstAt s.heap a oe D (some od) := ⟨hget, hz.1, by unfold PySem.W.notCls; rw [hv] <;> rfl, by rw [hz.2]; exact ho⟩
      have hcl : (PySem.W.clsIn X.K D).isSome = true := by
        obtain ⟨cd, hc, _⟩ := PySem.W.any_some C.hd
        rw [hc]
        rfl
      exact PySem.W.kia_one (PySem.W.kitx_exc hcl C.hg C.hk C.hs C.ha C.hn C.ht C.hm) I.kIn J e (fun z => nomatch z) fun tk => ⟨.bl b, H, I.kept (t' := tk) fun _ _ z => z, rfl, q⟩
section
variable {X : Cx} {CX : CXT} {k : Nat} {f C : Addr} {fd : FuncData} {ps : List Str} {sp : Sp} {E : L2.St → XK} {x : Str} {p pos : Pos} {e : Expr} {es : List Expr} {t : TA}
/-- C(e, ..), C's __init__ may raise: what is wished of the error hangs on the slots -/
def tMakeS (C : Addr) (sp : Sp) (E : L2.St → XK) (t : TA) : TE := fun σ H Q => t σ H fun vs H1 => ∀ x dx, H1 x = none → H1 dx = none → dx ≠ x →
  sp (.ref x :: vs) (upd (upd H1 dx (.own x)) x (.ins C dx [])) (fun v H2 => v = .non ∧ Q (.ref x) H2) (E σ)
theorem pe_makeS (M : Mk X.K C f) (F : FnOk X.prog X.w X.K X.mg X.base CX k f fd ps sp) (hr : Room (k + 1) X.A) (hg : Gl X x) (hm : X.mg x = some (.ref C)) (hb : Binds X.K fd ps []) (hx : ∀ σ, PassesAt CX X σ (E σ))
    (ha : PA X (e :: es) t) (hdb : (x == ("__debug__" : Str)) = false := by decide) (he : starEach (e :: es) X.env = (false, eval e X.env) :: starEach es X.env := by rfl) (hpl : (backTo pos (starEach es X.env)).any (·.1) = false := by rfl) :
    PE X (.Call (.Name x p) (e :: es) [] pos) (tMakeS C sp E t) := by
  refine ⟨fun pins s σ H Q I h => wpAny_Call_Name_kw (ld_glob I hg hm ?_ hdb)⟩
  refine PySem.W.callWith_K (h₀ := X.base) I.ok.mod.kin M.kp (thn (ha.run pos pins s σ H _ I h) fun us s1 ⟨vs, H1, I1, r, q⟩ => ⟨I1.kIn, ?_⟩) he hpl
  have hq := q (s1.heap.objs.size + 1) s1.heap.objs.size (I1.hok.fresh (Nat.le_succ _)) (I1.hok.fresh (Nat.le_refl _)) (Nat.ne_of_lt (Nat.lt_succ_self _))
  have I2 := Inv.made (C := C) I1
  have r2 : Vals (V.ref (s1.heap.objs.size + 1) :: vs) (Value.ref (s1.heap.objs.size + 1) :: us) := .cons rfl r
  have hl : ((Value.ref (s1.heap.objs.size + 1) :: us) ++ ([] : List Value)).length = ps.length := by
    have e := r2.length
    rw [F.len _ _ _ _ hq] at e
    rw [List.append_nil]
    exact e.symm
  have hb2 := hb _ (Value.ref (s1.heap.objs.size + 1) :: us) I2.kIn hl
  rw [List.append_nil] at hb2
  have run := F.run _ X.stack _ _ ⟨Value.ref (s1.heap.objs.size + 1) :: us, []⟩ _ _ _ (E σ) (hr.make C us []) (I2.env0.make C us []) hb2 r2 hq
  refine wpAny_call (make_map (f := f) I1.kIn M.makes M.init (beq_iff_eq.mp M.fn) (codeAny_mono run fun res s' hq' => ?_))
  cases res with
  | error er => exact hx σ pins _ _ er s' I2 hq'
  | ok fl =>
    cases fl with
    | ret u =>
      obtain ⟨v, H', I3, rv, ev, q3⟩ := I2.after hq'
      subst ev
      exact ⟨rv, V.ref (s1.heap.objs.size + 1), H', I3, rfl, q3⟩
    | next => exact False.elim hq'
    | brk => exact False.elim hq'
    | cont => exact False.elim hq'
end
end Fk
/-! Lists of lists on the heap, their copies; the box of draws. -/
namespace Fk
open PySem PySem.Spec PyProof.Rows L2
/-- at p a list of lists: they stand at rs and hold vss -/
structure Nest (H : Hp) (p : Addr) (rs : List Addr) (vss : List (List V)) : Prop where
  lst : H p = some (.lst (rs.map V.ref))
  len : rs.length = vss.length
  row : ∀ (i : Nat) (r : Addr) (vs : List V), rs[i]? = some r → vss[i]? = some vs → H r = some (.lst vs)
theorem Nest.keep {H H' : Hp} {p : Addr} {rs : List Addr} {vss : List (List V)} (n : Nest H p rs vss) (k : ∀ c, c ∈ p :: rs → ∀ o, H c = some o → H' c = some o) : Nest H' p rs vss :=
  ⟨k p List.mem_cons_self _ n.lst, n.len, fun i r vs h1 h2 => k r (List.mem_cons_of_mem _ (List.mem_of_getElem? h1)) _ (n.row i r vs h1 h2)⟩
theorem Nest.same {H H' : Hp} {p : Addr} {rs : List Addr} {vss : List (List V)} (n : Nest H p rs vss) (s : Same H H') : Nest H' p rs vss := n.keep fun c _ o e => s c o e
theorem Nest.ne {H : Hp} {p c : Addr} {o : HO} {rs : List Addr} {vss : List (List V)} (n : Nest H p rs vss) (h : c ∉ p :: rs) : Nest (upd H c o) p rs vss := n.keep fun b hb u e => by
  rw [upd_ne (fun z => h (by rw [← z]; exact hb))]
  exact e
theorem Nest.get {H : Hp} {p : Addr} {rs : List Addr} {vss : List (List V)} (n : Nest H p rs vss) {i : Nat} {vs : List V} (h : vss[i]? = some vs) : ∃ r, rs[i]? = some r ∧ H r = some (.lst vs) := by
  have hi := (List.getElem?_eq_some_iff.mp h).1
  have hj : i < rs.length := by rw [n.len]; exact hi
  exact ⟨rs[i], List.getElem?_eq_getElem hj, n.row i _ vs (List.getElem?_eq_getElem hj) h⟩
theorem Nest.of_addr {H : Hp} {p : Addr} {rs : List Addr} {vss : List (List V)} (n : Nest H p rs vss) {i : Nat} {r : Addr} (h : rs[i]? = some r) : ∃ vs, vss[i]? = some vs ∧ H r = some (.lst vs) := by
  have hi := (List.getElem?_eq_some_iff.mp h).1
  have hj : i < vss.length := by rw [← n.len]; exact hi
  exact ⟨vss[i], List.getElem?_eq_getElem hj, n.row i r _ h (List.getElem?_eq_getElem hj)⟩
/-- every address of it is in use -/
theorem Nest.used {H : Hp} {p c : Addr} {rs : List Addr} {vss : List (List V)} (n : Nest H p rs vss) (h : c ∈ p :: rs) : ∃ o, H c = some o := by
  rcases List.mem_cons.mp h with e | h
  · rw [e]
    exact ⟨_, n.lst⟩
  · obtain ⟨i, hi⟩ := List.mem_iff_getElem?.mp h
    obtain ⟨vs, _, e⟩ := n.of_addr hi
    exact ⟨_, e⟩
theorem Nest.off {H : Hp} {p c : Addr} {rs : List Addr} {vss : List (List V)} (n : Nest H p rs vss) (h : H c = none) : c ∉ p :: rs := fun hc => by
  obtain ⟨o, e⟩ := n.used hc
  rw [h] at e
  cases e
/-- a row is changed in place -/
theorem Nest.set {H : Hp} {p r : Addr} {rs : List Addr} {vss : List (List V)} {vs : List V} {i : Nat} (n : Nest H p rs vss) (nd : (p :: rs).Nodup) (h : rs[i]? = some r) : Nest (upd H r (.lst vs)) p rs (vss.set i vs) := by
  obtain ⟨np, nd'⟩ := List.nodup_cons.mp nd
  refine ⟨?_, by rw [List.length_set]; exact n.len, fun j c ws h1 h2 => ?_⟩
  · rw [upd_ne (fun z => np (by rw [z]; exact List.mem_of_getElem? h))]
    exact n.lst
  · by_cases hj : i = j
    · subst hj
      have e : r = c := Option.some.inj (h.symm.trans h1)
      subst e
      have hi : i < vss.length := by rw [← n.len]; exact (List.getElem?_eq_some_iff.mp h).1
      rw [List.getElem?_set_self hi] at h2
      rw [upd_same, Option.some.inj h2]
    · rw [List.getElem?_set_ne hj] at h2
      rw [upd_ne (fun z => hj (nd_ix nd' h (by rw [← z]; exact h1)))]
      exact n.row j c ws h1 h2
/-- a place of the outer list is stored anew -/
theorem Nest.put {H : Hp} {p q : Addr} {rs : List Addr} {vss : List (List V)} {vs : List V} {i : Nat} (n : Nest H p rs vss) (hi : i < rs.length) (np : p ∉ rs) (npq : q ≠ p) (hq : H q = some (.lst vs)) :
    Nest (upd H p (.lst ((rs.map V.ref).set i (.ref q)))) p (rs.set i q) (vss.set i vs) := by
  refine ⟨?_, by rw [List.length_set, List.length_set]; exact n.len, fun j c ws h1 h2 => ?_⟩
  · rw [upd_same, List.map_set]
  · by_cases hj : i = j
    · subst hj
      rw [List.getElem?_set_self hi] at h1
      rw [List.getElem?_set_self (by rw [← n.len]; exact hi)] at h2
      rw [← Option.some.inj h1, ← Option.some.inj h2, upd_ne npq]
      exact hq
    · rw [List.getElem?_set_ne hj] at h1 h2
      rw [upd_ne (fun z => np (by rw [← z]; exact List.mem_of_getElem? h1))]
      exact n.row j c ws h1 h2
/-- what is new at p :: rs, all apart; what stood stands -/
structure Fresh (H H' : Hp) (p : Addr) (rs : List Addr) : Prop where
  same : Same H H'
  new : ∀ c, c ∈ p :: rs → H c = none
  nd : (p :: rs).Nodup
theorem wipe_one {σ : L2.St} {i : Nat} {x : Option V} : wipe ((wipe σ [i]).set i x) [i] = wipe σ [i] := by
  show ((σ.set i none).set i x).set i none = σ.set i none
  rw [List.set_set, List.set_set]
theorem wipe_get {σ : L2.St} {i : Nat} {x : V} (hi : i < σ.length) : ((wipe σ [i]).set i (some x))[i]? = some (some x) := List.getElem?_set_self (by rw [wipe_length]; exact hi)
/-- list(x) -/
def rLof (K : PySem.W.Frag) : List V → Hp → VK → Prop := fun xs H Q => ∃ p ys, xs = [.ref p] ∧ (SqL K H p ys ∨ SqT K H p ys) ∧ ∀ l, H l = none → Q (.ref l) (upd H l (.lst ys))
/-- tuple(x) -/
def rTof (K : PySem.W.Frag) : List V → Hp → VK → Prop := fun xs H Q => ∃ p ys, xs = [.ref p] ∧ ((SqL K H p ys ∧ ∀ l, H l = none → Q (.ref l) (upd H l (.tup ys))) ∨ (SqT K H p ys ∧ Q (.ref p) H))
theorem small_lt {n : Nat} (h : n ≤ 1000) : n < sizeLine := small1000 h
/-- [list(row) for row in xs], behind the walked thing -/
theorem copy_body {K : PySem.W.Frag} {a : Addr} {rs : List Addr} {vss : List (List V)} {σ : L2.St} {H : Hp} {i : Nat} {Q : VK} (n : Nest H a rs vss) (hz : rs.length ≤ 1000) (hi : i < σ.length)
    (hk : ∀ (D : Addr) (cs : List Addr) (H' : Hp), Fresh H H' D cs → Nest H' D cs vss → Q (.ref D) H') :
    tLc (fun _ _ R => R (Itl K a) H) (gName i) tYes (tCB (rLof K) (tCons (tVar i) tNil)) [i] σ H Q := by
  intro D hD
  refine lc_list (K := K) (a := a) (xs := rs.map V.ref) (fun j G => ∃ cs : List Addr, cs.length = j ∧ Fresh H G D cs ∧ G D = some (.lst (cs.map V.ref)) ∧ ∀ (m : Nat) (r : Addr) (vs : List V), cs[m]? = some r → vss[m]? = some vs → G r = some (.lst vs)) ?_ ?_ ?_ ?_
  · refine ⟨[], rfl, ⟨fun b o e => ?_, fun c hc => ?_, by simp⟩, upd_same, fun m r vs h1 _ => by simp at h1⟩
    · rw [upd_ne (ne_of_none e hD)]
      exact e
    · rw [List.mem_singleton.mp hc]
      exact hD
  · rintro j G _ ⟨cs, _, F, _, _⟩
    exact SqL.of (F.same _ _ n.lst)
  · rintro j x G hx ⟨cs, hl, F, hG, hr⟩
    rw [List.getElem?_map] at hx
    obtain ⟨r, hrj, rfl⟩ : ∃ r, rs[j]? = some r ∧ V.ref r = x := by
      cases e : rs[j]? with
      | none =>
        rw [e] at hx
        cases hx
      | some r =>
        rw [e] at hx
        exact ⟨r, rfl, Option.some.inj hx⟩
    obtain ⟨vs, hv, hrr⟩ := n.of_addr hrj
    have hjl := (List.getElem?_eq_some_iff.mp hrj).1
    refine ⟨wipe_one, _, wipe_get hi, r, vs, rfl, .inl (SqL.of (F.same _ _ hrr)), fun l hl' => ?_⟩
    have nDl : D ≠ l := ne_of_none hG hl'
    have hH : H l = none := F.same.free hl'
    refine ⟨_, (upd_ne nDl).trans hG, small_lt (by rw [List.length_map]; omega), cs ++ [l], by rw [List.length_append, hl]; rfl, ⟨fun b o e => ?_, fun c hc => ?_, ?_⟩, ?_, fun m c ws h1 h2 => ?_⟩
    · have e2 := F.same _ _ e
      rw [upd_ne (ne_of_none e hD), upd_ne (ne_of_none e2 hl')]
      exact e2
    · rcases List.mem_cons.mp hc with e | hc
      · rw [e]
        exact hD
      rcases List.mem_append.mp hc with hc | hc
      · exact F.new c (List.mem_cons_of_mem _ hc)
      · rw [List.mem_singleton.mp hc]
        exact hH
    · have hlc : l ∉ D :: cs := fun hc => by
        rcases List.mem_cons.mp hc with e | hc
        · exact nDl e.symm
        · obtain ⟨m, hm⟩ := List.mem_iff_getElem?.mp hc
          have hml := (List.getElem?_eq_some_iff.mp hm).1
          have hmv : m < vss.length := by rw [← n.len]; omega
          have z := hr m l _ hm (List.getElem?_eq_getElem hmv)
          rw [hl'] at z
          cases z
      have z : (D :: (cs ++ [l])) = (D :: cs) ++ [l] := rfl
      rw [z]
      exact List.nodup_append.mpr ⟨F.nd, by simp, fun a ha b hb e => hlc (by rw [List.mem_singleton.mp hb] at e; rw [← e]; exact ha)⟩
    · rw [upd_same, List.map_append]
      rfl
    · have hcD : c ≠ D := fun e => by
        subst e
        rcases List.mem_append.mp (List.mem_of_getElem? h1) with hc | hc
        · exact (List.nodup_cons.mp F.nd).1 hc
        · exact nDl (List.mem_singleton.mp hc)
      rw [upd_ne hcD]
      by_cases hm : m < cs.length
      · rw [List.getElem?_append_left hm] at h1
        have z := hr m c ws h1 h2
        rw [upd_ne (ne_of_none z hl')]
        exact z
      · have hm2 : m = cs.length := by
          have := (List.getElem?_eq_some_iff.mp h1).1
          rw [List.length_append] at this
          simp at this
          omega
        subst hm2
        have e1 : (cs ++ [l])[cs.length]? = some l := by simp
        have e : l = c := Option.some.inj (e1.symm.trans h1)
        subst e
        rw [upd_same]
        rw [hl, hv] at h2
        rw [Option.some.inj h2]
  · rintro G ⟨cs, hl, F, hG, hr⟩
    rw [List.length_map] at hl
    exact hk D cs G F ⟨hG, hl.trans n.len, hr⟩
/-- what is read does not hang on what is wanted of it -/
def Mono (te : TE) : Prop := ∀ (σ : L2.St) (H : Hp) (R R' : VK), (∀ x G, R x G → R' x G) → te σ H R → te σ H R'
theorem mono_var {i : Nat} : Mono (tVar i) := fun _ _ _ _ h ⟨v, e, q⟩ => ⟨v, e, h _ _ q⟩
/-- a reading that asks no less may stand for another one -/
theorem pe_imp {X : Cx} {e : Expr} {t t' : TE} (h : PE X e t) (k : ∀ σ H Q, t' σ H Q → t σ H Q) : PE X e t' := ⟨fun pins s σ H Q I hw => h.run pins s σ H Q I (k _ _ _ hw)⟩
/-- a copy of a list of lists, row by row -/
def tCopy (te : TE) (i : Nat) : TE := fun σ H Q => te σ H fun x H1 => ∃ (a : Addr) (rs : List Addr) (vss : List (List V)), x = .ref a ∧ Nest H1 a rs vss ∧ rs.length ≤ 1000 ∧ i < σ.length ∧
  ∀ (D : Addr) (cs : List Addr) (H' : Hp), Fresh H1 H' D cs → Nest H' D cs vss → Q (.ref D) H'
theorem copy_imp {K : PySem.W.Frag} {te : TE} {i : Nat} (m : Mono te) : ∀ σ H Q, tCopy te i σ H Q → tLc (iList K te) (gName i) tYes (tCB (rLof K) (tCons (tVar i) tNil)) [i] σ H Q := fun σ H Q h =>
  m σ H _ _ (fun x H1 ⟨a, rs, vss, e, n, hz, hi, hk⟩ => ⟨a, e, ⟨_, SqL.of n.lst⟩, copy_body (Q := Q) n hz hi hk⟩) h
end Fk
/-! Tuples of tuples; data; the parts of a machine; the box of draws. -/
namespace Fk
open PySem PySem.Spec PyProof.Rows L2
/-- at p a tuple of tuples: they stand at rs and hold vss -/
structure NestT (H : Hp) (p : Addr) (rs : List Addr) (vss : List (List V)) : Prop where
  tup : H p = some (.tup (rs.map V.ref))
  len : rs.length = vss.length
  row : ∀ (i : Nat) (r : Addr) (vs : List V), rs[i]? = some r → vss[i]? = some vs → H r = some (.tup vs)
theorem NestT.same {H H' : Hp} {p : Addr} {rs : List Addr} {vss : List (List V)} (n : NestT H p rs vss) (s : Same H H') : NestT H' p rs vss :=
  ⟨s _ _ n.tup, n.len, fun i r vs h1 h2 => s _ _ (n.row i r vs h1 h2)⟩
/-- [tuple(row) for row in xs], behind the walked thing -/
theorem tup_body {K : PySem.W.Frag} {a : Addr} {rs : List Addr} {vss : List (List V)} {σ : L2.St} {H : Hp} {i : Nat} {Q : VK} (n : Nest H a rs vss) (hz : rs.length ≤ 1000) (hi : i < σ.length)
    (hk : ∀ (D : Addr) (cs : List Addr) (H' : Hp), Same H H' → H D = none → H' D = some (.lst (cs.map V.ref)) → cs.length = vss.length → (∀ (m : Nat) (r : Addr) (vs : List V), cs[m]? = some r → vss[m]? = some vs → H' r = some (.tup vs)) → Q (.ref D) H') :
    tLc (fun _ _ R => R (Itl K a) H) (gName i) tYes (tCB (rTof K) (tCons (tVar i) tNil)) [i] σ H Q := by
  intro D hD
  refine lc_list (K := K) (a := a) (xs := rs.map V.ref) (fun j G => ∃ cs : List Addr, cs.length = j ∧ Same H G ∧ G D = some (.lst (cs.map V.ref)) ∧ ∀ (m : Nat) (r : Addr) (vs : List V), cs[m]? = some r → vss[m]? = some vs → G r = some (.tup vs)) ?_ ?_ ?_ ?_
  · refine ⟨[], rfl, fun b o e => ?_, upd_same, fun m r vs h1 _ => by simp at h1⟩
    rw [upd_ne (ne_of_none e hD)]
    exact e
  · rintro j G _ ⟨cs, _, s, _, _⟩
    exact SqL.of (s _ _ n.lst)
  · rintro j x G hx ⟨cs, hl, s, hG, hr⟩
    rw [List.getElem?_map] at hx
    obtain ⟨r, hrj, rfl⟩ : ∃ r, rs[j]? = some r ∧ V.ref r = x := by
      cases e : rs[j]? with
      | none =>
        rw [e] at hx
        cases hx
      | some r =>
        rw [e] at hx
        exact ⟨r, rfl, Option.some.inj hx⟩
    obtain ⟨vs, hv, hrr⟩ := n.of_addr hrj
    have hjl := (List.getElem?_eq_some_iff.mp hrj).1
    refine ⟨wipe_one, _, wipe_get hi, r, vs, rfl, .inl ⟨SqL.of (s _ _ hrr), fun l hl' => ?_⟩⟩
    have nDl : D ≠ l := ne_of_none hG hl'
    refine ⟨_, (upd_ne nDl).trans hG, small_lt (by rw [List.length_map]; omega), cs ++ [l], by rw [List.length_append, hl]; rfl, fun b o e => ?_, ?_, fun m c ws h1 h2 => ?_⟩
    · have e2 := s _ _ e
      rw [upd_ne (ne_of_none e hD), upd_ne (ne_of_none e2 hl')]
      exact e2
    · rw [upd_same, List.map_append]
      rfl
    · by_cases hm : m < cs.length
      · rw [List.getElem?_append_left hm] at h1
        have z := hr m c ws h1 h2
        have hcD : c ≠ D := fun e => by
          rw [e, hG] at z
          cases z
        rw [upd_ne hcD, upd_ne (ne_of_none z hl')]
        exact z
      · have hm2 : m = cs.length := by
          have := (List.getElem?_eq_some_iff.mp h1).1
          rw [List.length_append] at this
          simp at this
          omega
        subst hm2
        have e1 : (cs ++ [l])[cs.length]? = some l := by simp
        have e : l = c := Option.some.inj (e1.symm.trans h1)
        subst e
        rw [upd_ne (Ne.symm nDl), upd_same]
        rw [hl, hv] at h2
        rw [Option.some.inj h2]
  · rintro G ⟨cs, hl, s, hG, hr⟩
    rw [List.length_map] at hl
    exact hk D cs G s hD hG (hl.trans n.len) hr
def tTups (te : TE) (i : Nat) : TE := fun σ H Q => te σ H fun x H1 => ∃ (a : Addr) (rs : List Addr) (vss : List (List V)), x = .ref a ∧ Nest H1 a rs vss ∧ rs.length ≤ 1000 ∧ i < σ.length ∧
  ∀ (D : Addr) (cs : List Addr) (H' : Hp), Same H1 H' → H1 D = none → H' D = some (.lst (cs.map V.ref)) → cs.length = vss.length → (∀ (m : Nat) (r : Addr) (vs : List V), cs[m]? = some r → vss[m]? = some vs → H' r = some (.tup vs)) → Q (.ref D) H'
theorem tups_imp {K : PySem.W.Frag} {te : TE} {i : Nat} (m : Mono te) : ∀ σ H Q, tTups te i σ H Q → tLc (iList K te) (gName i) tYes (tCB (rTof K) (tCons (tVar i) tNil)) [i] σ H Q := fun σ H Q h =>
  m σ H _ _ (fun x H1 ⟨a, rs, vss, e, n, hz, hi, hk⟩ => ⟨a, e, ⟨_, SqL.of n.lst⟩, tup_body (Q := Q) n hz hi hk⟩) h
/-! ### data -/
def vD : V → PyData
  | .int i => .int i
  | .str x => .str x
  | _ => .none
def flatIS (v : V) : Prop := (∃ i, v = .int i) ∨ ∃ x, v = .str x
def Flat2 (vss : List (List V)) : Prop := ∀ vs, vs ∈ vss → ∀ v, v ∈ vs → flatIS v
theorem dpAll_of {K : PySem.W.Frag} {H : Hp} : ∀ {xs : List V} {ds : List PyData}, xs.length = ds.length → (∀ (i : Nat) (x : V) (d : PyData), xs[i]? = some x → ds[i]? = some d → Dp K H x d) → DpAll K H xs ds
  | [], [], _, _ => .nil
  | x :: xs, d :: ds, hl, h => .cons (h 0 x d rfl rfl) (dpAll_of (by simpa using hl) fun i y e h1 h2 => h (i + 1) y e (by simpa using h1) (by simpa using h2))
  | [], _ :: _, hl, _ => by simp at hl
  | _ :: _, [], hl, _ => by simp at hl
theorem dp_flat {K : PySem.W.Frag} {H : Hp} {v : V} (h : flatIS v) : Dp K H v (vD v) := by
  rcases h with ⟨i, rfl⟩ | ⟨x, rfl⟩
  · exact .int i
  · exact .str x
theorem dp_row {K : PySem.W.Frag} {H : Hp} {vs : List V} (h : ∀ v, v ∈ vs → flatIS v) : DpAll K H vs (vs.map vD) := dpAll_of (by rw [List.length_map]) fun i x d h1 h2 => by
  rw [List.getElem?_map, h1] at h2
  rw [← Option.some.inj h2]
  exact dp_flat (h x (List.mem_of_getElem? h1))
def rowL (vs : List V) : PyData := .list (vs.map vD)
def rowT (vs : List V) : PyData := .tuple (vs.map vD)
theorem Nest.dp {K : PySem.W.Frag} {H : Hp} {p : Addr} {rs : List Addr} {vss : List (List V)} (n : Nest H p rs vss) (f : Flat2 vss) : Dp K H (.ref p) (.list (vss.map rowL)) := by
  refine .lst (SqL.of n.lst) (dpAll_of (by rw [List.length_map, List.length_map, n.len]) fun i x d h1 h2 => ?_)
  rw [List.getElem?_map] at h1 h2
  cases e1 : rs[i]? with
  | none =>
    rw [e1] at h1
    cases h1
  | some r =>
    cases e2 : vss[i]? with
    | none =>
      rw [e2] at h2
      cases h2
    | some vs =>
      rw [e1] at h1
      rw [e2] at h2
      rw [← Option.some.inj h1, ← Option.some.inj h2]
      exact .lst (SqL.of (n.row i r vs e1 e2)) (dp_row (f vs (List.mem_of_getElem? e2)))
theorem NestT.dp {K : PySem.W.Frag} {H : Hp} {p : Addr} {rs : List Addr} {vss : List (List V)} (n : NestT H p rs vss) (f : Flat2 vss) : Dp K H (.ref p) (.tuple (vss.map rowT)) := by
  refine .tup (SqT.of n.tup) (dpAll_of (by rw [List.length_map, List.length_map, n.len]) fun i x d h1 h2 => ?_)
  rw [List.getElem?_map] at h1 h2
  cases e1 : rs[i]? with
  | none =>
    rw [e1] at h1
    cases h1
  | some r =>
    cases e2 : vss[i]? with
    | none =>
      rw [e2] at h2
      cases h2
    | some vs =>
      rw [e1] at h1
      rw [e2] at h2
      rw [← Option.some.inj h1, ← Option.some.inj h2]
      exact .tup (SqT.of (n.row i r vs e1 e2)) (dp_row (f vs (List.mem_of_getElem? e2)))
/-! ### the parts of a machine -/
structure Parts where
  reads : Str
  writes : Str
  left : List (List Int)
  right : List (List Int)
  table : List (List Str)
def vI (rows : List (List Int)) : List (List V) := rows.map fun row => row.map V.int
def vS (rows : List (List Str)) : List (List V) := rows.map fun row => row.map V.str
theorem vI_len (rows : List (List Int)) : (vI rows).length = rows.length := List.length_map ..
theorem vS_len (rows : List (List Str)) : (vS rows).length = rows.length := List.length_map ..
theorem flat_vI (rows : List (List Int)) : Flat2 (vI rows) := fun vs hv v hm => by
  obtain ⟨row, _, rfl⟩ := List.mem_map.mp hv
  obtain ⟨i, _, rfl⟩ := List.mem_map.mp hm
  exact .inl ⟨i, rfl⟩
theorem flat_vS (rows : List (List Str)) : Flat2 (vS rows) := fun vs hv v hm => by
  obtain ⟨row, _, rfl⟩ := List.mem_map.mp hv
  obtain ⟨i, _, rfl⟩ := List.mem_map.mp hm
  exact .inr ⟨i, rfl⟩
/-- the tuple that form gives -/
structure FormAt (H : Hp) (q : Addr) (m : Parts) : Prop where
  ex : ∃ (tl tr tt : Addr) (cl cr ct : List Addr), H q = some (.tup [.str m.reads, .str m.writes, .ref tl, .ref tr, .ref tt]) ∧ NestT H tl cl (vI m.left) ∧ NestT H tr cr (vI m.right) ∧ NestT H tt ct (vS m.table)
theorem FormAt.same {H H' : Hp} {q : Addr} {m : Parts} (f : FormAt H q m) (s : Same H H') : FormAt H' q m := by
  obtain ⟨tl, tr, tt, cl, cr, ct, h1, h2, h3, h4⟩ := f.ex
  exact ⟨tl, tr, tt, cl, cr, ct, s _ _ h1, h2.same s, h3.same s, h4.same s⟩
def formD (m : Parts) : PyData := .tuple [.str m.reads, .str m.writes, .tuple ((vI m.left).map rowT), .tuple ((vI m.right).map rowT), .tuple ((vS m.table).map rowT)]
theorem FormAt.dp {K : PySem.W.Frag} {H : Hp} {q : Addr} {m : Parts} (f : FormAt H q m) : Dp K H (.ref q) (formD m) := by
  obtain ⟨tl, tr, tt, cl, cr, ct, h1, h2, h3, h4⟩ := f.ex
  exact .tup (SqT.of h1) (.cons (.str _) (.cons (.str _) (.cons (h2.dp (flat_vI _)) (.cons (h3.dp (flat_vI _)) (.cons (h4.dp (flat_vS _)) .nil)))))
/-! shaped -/
def okV (v : V) : Prop := (vD v).canLay0 = true
theorem canLayAll_map {α : Type} (g : α → PyData) : ∀ l : List α, (∀ x, x ∈ l → (g x).canLay0 = true) → PyData.canLayAll0 (l.map g) = true
  | [], _ => by simp [PyData.canLayAll0]
  | x :: r, h => by
    have ih := canLayAll_map g r fun y hy => h y (List.mem_cons_of_mem _ hy)
    simp only [List.map_cons, PyData.canLayAll0, h x List.mem_cons_self, ih, Bool.and_self]
theorem depthAll_map {α : Type} (g : α → PyData) (k : Nat) : ∀ l : List α, (∀ x, x ∈ l → (g x).depth ≤ k) → PyData.depthAll (l.map g) ≤ k
  | [], _ => by simp [PyData.depthAll]
  | x :: r, h => by
    have ih := depthAll_map g k r fun y hy => h y (List.mem_cons_of_mem _ hy)
    have h1 := h x List.mem_cons_self
    simp only [List.map_cons, PyData.depthAll]
    omega
theorem depth_vD (v : V) : (vD v).depth ≤ 1 := by cases v <;> simp [vD, PyData.depth]
theorem depth_rowL (vs : List V) : (rowL vs).depth ≤ 2 := by
  have := depthAll_map vD 1 vs fun x _ => depth_vD x
  simp only [rowL, PyData.depth]
  omega
theorem depth_rowT (vs : List V) : (rowT vs).depth ≤ 2 := by
  have := depthAll_map vD 1 vs fun x _ => depth_vD x
  simp only [rowT, PyData.depth]
  omega
theorem lay_rowL {vs : List V} (h : ∀ v, v ∈ vs → okV v) : (rowL vs).canLay0 = true := by
  simp only [rowL, PyData.canLay0]
  exact canLayAll_map vD vs h
theorem lay_rowT {vs : List V} (h : ∀ v, v ∈ vs → okV v) : (rowT vs).canLay0 = true := by
  simp only [rowT, PyData.canLay0]
  exact canLayAll_map vD vs h
theorem okV_int (i : Int) : okV (.int i) := by simp [okV, vD, PyData.canLay0]
theorem okV_str {x : Str} (h : x.cps.all (· < 0x110000) = true) : okV (.str x) := by
  unfold okV vD
  simp only [PyData.canLay0]
  exact h
def Ok2 (vss : List (List V)) : Prop := ∀ vs, vs ∈ vss → ∀ v, v ∈ vs → okV v
theorem ok_vI (rows : List (List Int)) : Ok2 (vI rows) := fun vs hv v hm => by
  obtain ⟨row, _, rfl⟩ := List.mem_map.mp hv
  obtain ⟨i, _, rfl⟩ := List.mem_map.mp hm
  exact okV_int i
theorem ok_vS {rows : List (List Str)} (h : ∀ row, row ∈ rows → ∀ x, x ∈ row → x.cps.all (· < 0x110000) = true) : Ok2 (vS rows) := fun vs hv v hm => by
  obtain ⟨row, hr, rfl⟩ := List.mem_map.mp hv
  obtain ⟨x, hx, rfl⟩ := List.mem_map.mp hm
  exact okV_str (h row hr x hx)
theorem lay_tabL {vss : List (List V)} (h : Ok2 vss) : (PyData.list (vss.map rowL)).canLay0 = true := by
  simp only [PyData.canLay0]
  exact canLayAll_map rowL vss fun vs hv => lay_rowL (h vs hv)
theorem lay_tabT {vss : List (List V)} (h : Ok2 vss) : (PyData.tuple (vss.map rowT)).canLay0 = true := by
  simp only [PyData.canLay0]
  exact canLayAll_map rowT vss fun vs hv => lay_rowT (h vs hv)
theorem depth_tabL (vss : List (List V)) : (PyData.list (vss.map rowL)).depth ≤ 3 := by
  have := depthAll_map rowL 2 vss fun x _ => depth_rowL x
  simp only [PyData.depth]
  omega
theorem depth_tabT (vss : List (List V)) : (PyData.tuple (vss.map rowT)).depth ≤ 3 := by
  have := depthAll_map rowT 2 vss fun x _ => depth_rowT x
  simp only [PyData.depth]
  omega
theorem shaped_form {m : Parts} (h1 : m.reads.cps.all (· < 0x110000) = true) (h2 : m.writes.cps.all (· < 0x110000) = true) (h3 : ∀ row, row ∈ m.table → ∀ x, x ∈ row → x.cps.all (· < 0x110000) = true) : SeqAt.shaped (formD m) = true := by
  have a := lay_tabT (ok_vI m.left)
  have b := lay_tabT (ok_vI m.right)
  have c := lay_tabT (ok_vS h3)
  have d := depth_tabT (vI m.left)
  have e := depth_tabT (vI m.right)
  have f := depth_tabT (vS m.table)
  have g1 : (PyData.str m.reads).canLay0 = true := by simp only [PyData.canLay0]; exact h1
  have g2 : (PyData.str m.writes).canLay0 = true := by simp only [PyData.canLay0]; exact h2
  unfold SeqAt.shaped
  refine Bool.and_eq_true_iff.mpr ⟨?_, decide_eq_true ?_⟩
  · unfold formD
    rw [PyData.canLay0]
    simp only [PyData.canLayAll0, g1, g2, a, b, c, Bool.and_self]
  · unfold formD
    rw [PyData.depth]
    have z : ∀ x : Str, (PyData.str x).depth ≤ 1 := fun x => by simp [PyData.depth]
    have z1 := z m.reads
    have z2 := z m.writes
    simp only [PyData.depthAll]
    omega
/-- the list of the three tables -/
def tabsD (m : Parts) : PyData := .list [.list ((vI m.left).map rowL), .list ((vI m.right).map rowL), .list ((vS m.table).map rowL)]
theorem shaped_tabs {m : Parts} (h3 : ∀ row, row ∈ m.table → ∀ x, x ∈ row → x.cps.all (· < 0x110000) = true) : SeqAt.shaped (tabsD m) = true := by
  have a := lay_tabL (ok_vI m.left)
  have b := lay_tabL (ok_vI m.right)
  have c := lay_tabL (ok_vS h3)
  have d := depth_tabL (vI m.left)
  have e := depth_tabL (vI m.right)
  have f := depth_tabL (vS m.table)
  unfold SeqAt.shaped
  refine Bool.and_eq_true_iff.mpr ⟨?_, decide_eq_true ?_⟩
  · unfold tabsD
    rw [PyData.canLay0]
    simp only [PyData.canLayAll0, a, b, c, Bool.and_self]
  · unfold tabsD
    rw [PyData.depth]
    simp only [PyData.depthAll]
    omega
theorem dp_tabs {K : PySem.W.Frag} {H : Hp} {p l r t : Addr} {ls rs ts : List Addr} {m : Parts} (h : H p = some (.lst [.ref l, .ref r, .ref t])) (hl : Nest H l ls (vI m.left)) (hr : Nest H r rs (vI m.right)) (ht : Nest H t ts (vS m.table)) : Dp K H (.ref p) (tabsD m) :=
  .lst (SqL.of h) (.cons (hl.dp (flat_vI _)) (.cons (hr.dp (flat_vI _)) (.cons (ht.dp (flat_vS _)) .nil)))
theorem eqv_self {d : PyData} (h : SeqAt.shaped d = true) : PyData.eqv d d = true := by
  first
    | exact SeqAt.eqv_refl d (SeqAt.canLay_of_shaped h)
    | exact PyData.eqv_refl d (SeqAt.canLay_of_shaped h)
    | exact P3.eqv_refl d (SeqAt.canLay_of_shaped h)
end Fk
/-! What the program's checks say, in plain Lean; good parts pass, spoiled ones do not. -/
namespace Fk
open PySem PySem.Spec PyProof.Rows L2
def az : Str := "abcdefghijklmnopqrstuvwxyz"
def lawLet : Str := "badcezyxwv"
/-- is_alphabet -/
def letOk (z : Str) (c : Nat) : Bool := decide (c ∈ az.cps.toList) && decide (V.int (Txt.count z ⟨#[c]⟩) = V.int 1)
def alphaOk (z : Str) : Bool := decide (1 ≤ (z.length : Int)) && (decide ((z.length : Int) ≤ 5) && (z.cps.toList.map (letOk z)).all id)
/-- is_word -/
def wordOk (w z : Str) : Bool := (z.cps.toList.map fun c => decide (c ∈ w.cps.toList)).all id
def rowOk (L n : Nat) (row : List Int) : Bool := decide (row.length = n) && row.all fun s => decide (0 ≤ s) && decide (s < (L : Int))
def rowsOk (rows : List (List Int)) (n : Nat) : Bool := decide (1 ≤ rows.length) && (decide (rows.length ≤ 40) && rows.all (rowOk rows.length n))
def toldOk (n : Nat) (w z : Str) : Bool := wordOk w z && decide (z.length = n)
def trowOk (R n : Nat) (w : Str) (row : List Str) : Bool := decide (row.length = R) && row.all (toldOk n w)
def tableOk (t : List (List Str)) (L R n : Nat) (w : Str) : Bool := decide (t.length = L) && t.all (trowOk R n w)
def machineOk (m : Parts) : Bool := alphaOk m.reads && (alphaOk m.writes && (rowsOk m.left m.reads.length && (rowsOk m.right m.reads.length && tableOk m.table m.left.length m.right.length m.reads.length m.writes)))
/-! ### the law's alphabets -/
def alphaZ (a k : Nat) : Str := cutS lawLet (some (a : Int)) (some ((a : Int) + ((k + 1 : Nat) : Int)))
def Alpha (z : Str) : Prop := ∃ a k : Nat, a < 5 ∧ k < 4 ∧ z = alphaZ a k
theorem alpha_all {p : Str → Bool} (h : ((List.range 5).all fun a => (List.range 4).all fun k => p (alphaZ a k)) = true) {z : Str} (hz : Alpha z) : p z = true := by
  obtain ⟨a, k, ha, hk, rfl⟩ := hz
  have h1 := List.all_eq_true.mp h a (List.mem_range.mpr ha)
  exact List.all_eq_true.mp h1 k (List.mem_range.mpr hk)
theorem alpha_ok {z : Str} (h : Alpha z) : alphaOk z = true := alpha_all (p := alphaOk) (by decide +kernel) h
theorem alpha_len {z : Str} (h : Alpha z) : 1 ≤ z.length ∧ z.length ≤ 4 := of_decide_eq_true (alpha_all (p := fun z => decide (1 ≤ z.length ∧ z.length ≤ 4)) (by decide +kernel) h)
theorem alpha_q {z : Str} (h : Alpha z) : (113 : Nat) ∉ z.cps.toList := of_decide_eq_true (alpha_all (p := fun z => decide ((113 : Nat) ∉ z.cps.toList)) (by decide +kernel) h)
theorem alpha_str {z : Str} (h : Alpha z) : z.cps.all (· < 0x110000) = true := alpha_all (p := fun z => z.cps.all (· < 0x110000)) (by decide +kernel) h
/-! ### good parts -/
structure Good (m : Parts) : Prop where
  ins : Alpha m.reads
  outs : Alpha m.writes
  l1 : 1 ≤ m.left.length
  l6 : m.left.length ≤ 6
  r1 : 1 ≤ m.right.length
  r6 : m.right.length ≤ 6
  lrow : ∀ row, row ∈ m.left → row.length = m.reads.length ∧ ∀ s, s ∈ row → 0 ≤ s ∧ s < (m.left.length : Int)
  rrow : ∀ row, row ∈ m.right → row.length = m.reads.length ∧ ∀ s, s ∈ row → 0 ≤ s ∧ s < (m.right.length : Int)
  tlen : m.table.length = m.left.length
  trow : ∀ row, row ∈ m.table → row.length = m.right.length ∧ ∀ z, z ∈ row → z.length = m.reads.length ∧ ∀ c, c ∈ z.cps.toList → c ∈ m.writes.cps.toList
theorem wordOk_of {w z : Str} (h : ∀ c, c ∈ z.cps.toList → c ∈ w.cps.toList) : wordOk w z = true := by
  unfold wordOk
  rw [List.all_eq_true]
  intro b hb
  obtain ⟨c, hc, rfl⟩ := List.mem_map.mp hb
  exact decide_eq_true (h c hc)
theorem of_wordOk {w z : Str} (h : wordOk w z = true) : ∀ c, c ∈ z.cps.toList → c ∈ w.cps.toList := fun c hc => by
  unfold wordOk at h
  rw [List.all_eq_true] at h
  exact of_decide_eq_true (h _ (List.mem_map.mpr ⟨c, hc, rfl⟩))
theorem rowsOk_of {rows : List (List Int)} {n : Nat} (h1 : 1 ≤ rows.length) (h6 : rows.length ≤ 6) (h : ∀ row, row ∈ rows → row.length = n ∧ ∀ s, s ∈ row → 0 ≤ s ∧ s < (rows.length : Int)) : rowsOk rows n = true := by
  unfold rowsOk
  refine Bool.and_eq_true_iff.mpr ⟨decide_eq_true h1, Bool.and_eq_true_iff.mpr ⟨decide_eq_true (by omega), ?_⟩⟩
  rw [List.all_eq_true]
  intro row hr
  obtain ⟨e, hs⟩ := h row hr
  unfold rowOk
  refine Bool.and_eq_true_iff.mpr ⟨decide_eq_true e, ?_⟩
  rw [List.all_eq_true]
  intro s hm
  exact Bool.and_eq_true_iff.mpr ⟨decide_eq_true (hs s hm).1, decide_eq_true (hs s hm).2⟩
theorem tableOk_of {t : List (List Str)} {L R n : Nat} {w : Str} (hl : t.length = L) (h : ∀ row, row ∈ t → row.length = R ∧ ∀ z, z ∈ row → z.length = n ∧ ∀ c, c ∈ z.cps.toList → c ∈ w.cps.toList) : tableOk t L R n w = true := by
  unfold tableOk
  refine Bool.and_eq_true_iff.mpr ⟨decide_eq_true hl, ?_⟩
  rw [List.all_eq_true]
  intro row hr
  obtain ⟨e, hs⟩ := h row hr
  unfold trowOk
  refine Bool.and_eq_true_iff.mpr ⟨decide_eq_true e, ?_⟩
  rw [List.all_eq_true]
  intro z hz
  exact Bool.and_eq_true_iff.mpr ⟨wordOk_of (hs z hz).2, decide_eq_true (hs z hz).1⟩
theorem good_ok {m : Parts} (g : Good m) : machineOk m = true := by
  unfold machineOk
  rw [alpha_ok g.ins, alpha_ok g.outs, rowsOk_of g.l1 g.l6 g.lrow, rowsOk_of g.r1 g.r6 g.rrow, tableOk_of g.tlen g.trow]
  rfl
theorem good_strs {m : Parts} (g : Good m) : ∀ row, row ∈ m.table → ∀ x, x ∈ row → x.cps.all (· < 0x110000) = true := fun row hr x hx => by
  rw [← Array.all_toList, List.all_eq_true]
  intro c hc
  have h2 := (g.trow row hr).2 x hx
  have h3 := alpha_str g.outs
  rw [← Array.all_toList, List.all_eq_true] at h3
  exact h3 c (h2.2 c hc)
theorem good_form {m : Parts} (g : Good m) : SeqAt.shaped (formD m) = true := shaped_form (alpha_str g.ins) (alpha_str g.outs) (good_strs g)
theorem good_tabs {m : Parts} (g : Good m) : SeqAt.shaped (tabsD m) = true := shaped_tabs (good_strs g)
/-! ### spoiled parts -/
theorem bad_reads {m : Parts} (h : alphaOk m.reads = false) : machineOk m = false := by unfold machineOk; rw [h]; rfl
theorem bad_writes {m : Parts} (h : alphaOk m.writes = false) : machineOk m = false := by unfold machineOk; rw [h]; simp
theorem bad_left {m : Parts} (h : rowsOk m.left m.reads.length = false) : machineOk m = false := by unfold machineOk; rw [h]; simp
theorem bad_right {m : Parts} (h : rowsOk m.right m.reads.length = false) : machineOk m = false := by unfold machineOk; rw [h]; simp
theorem bad_table {m : Parts} (h : tableOk m.table m.left.length m.right.length m.reads.length m.writes = false) : machineOk m = false := by unfold machineOk; rw [h]; simp
theorem all_bad {α : Type} {p : α → Bool} {l : List α} {i : Nat} {x : α} (h : l[i]? = some x) (hx : p x = false) : l.all p = false := by
  cases e : l.all p with
  | false => rfl
  | true =>
    rw [List.all_eq_true] at e
    rw [e x (List.mem_of_getElem? h)] at hx
    cases hx
theorem rows_bad {rows : List (List Int)} {n i : Nat} {row : List Int} (h : rows[i]? = some row) (hx : rowOk rows.length n row = false) : rowsOk rows n = false := by
  unfold rowsOk
  rw [all_bad h hx]
  simp
theorem rows_set {rows : List (List Int)} {n i : Nat} {row : List Int} (hi : i < rows.length) (hx : rowOk rows.length n row = false) : rowsOk (rows.set i row) n = false :=
  rows_bad (i := i) (row := row) (List.getElem?_set_self hi) (by rw [List.length_set]; exact hx)
theorem row_len {L n : Nat} {row : List Int} (h : row.length ≠ n) : rowOk L n row = false := by
  unfold rowOk
  rw [decide_eq_false h]
  rfl
theorem row_state {L n k : Nat} {row : List Int} {s : Int} (hk : k < row.length) (h : ¬ (0 ≤ s ∧ s < (L : Int))) : rowOk L n (row.set k s) = false := by
  unfold rowOk
  rw [all_bad (i := k) (x := s) (List.getElem?_set_self hk)]
  · simp
  · by_cases h0 : 0 ≤ s
    · rw [decide_eq_false (show ¬ s < (L : Int) from fun z => h ⟨h0, z⟩)]
      simp
    · rw [decide_eq_false h0]
      rfl
theorem rows_empty (n : Nat) : rowsOk [] n = false := rfl
theorem rows_many {rows : List (List Int)} {n : Nat} (h : 40 < rows.length) : rowsOk rows n = false := by
  unfold rowsOk
  rw [decide_eq_false (show ¬ rows.length ≤ 40 by omega)]
  simp
theorem table_len {t : List (List Str)} {L R n : Nat} {w : Str} (h : t.length ≠ L) : tableOk t L R n w = false := by
  unfold tableOk
  rw [decide_eq_false h]
  rfl
theorem table_row {t : List (List Str)} {L R n i : Nat} {w : Str} {row : List Str} (h : t[i]? = some row) (hx : trowOk R n w row = false) : tableOk t L R n w = false := by
  unfold tableOk
  rw [all_bad h hx]
  simp
theorem trow_len {R n : Nat} {w : Str} {row : List Str} (h : row.length ≠ R) : trowOk R n w row = false := by
  unfold trowOk
  rw [decide_eq_false h]
  rfl
theorem trow_told {R n j : Nat} {w z : Str} {row : List Str} (h : row[j]? = some z) (hx : toldOk n w z = false) : trowOk R n w row = false := by
  unfold trowOk
  rw [all_bad h hx]
  simp
theorem told_len {n : Nat} {w z : Str} (h : z.length ≠ n) : toldOk n w z = false := by
  unfold toldOk
  rw [decide_eq_false h]
  simp
theorem told_sign {n c : Nat} {w z : Str} (hc : c ∈ z.cps.toList) (h : c ∉ w.cps.toList) : toldOk n w z = false := by
  cases e : toldOk n w z with
  | false => rfl
  | true =>
    unfold toldOk at e
    exact absurd (of_wordOk (Bool.and_eq_true_iff.mp e).1 c hc) h
theorem bad_words : (["", "aa", "A", "abcdef"] : List Str).all (fun z => !alphaOk z) = true := by decide +kernel
end Fk
/-! The text by places; what the top has left of the names. -/
namespace Fk
open PySem PySem.Spec PyProof.Rows L2
abbrev sAlpha : Stmt := top 7
abbrev sWord : Stmt := top 8
abbrev sRows : Stmt := top 11
abbrev sTab : Stmt := top 12
abbrev sMach : Stmt := inClass (top 13) 0
abbrev sForm : Stmt := top 14
abbrev sCell : Stmt := top 16
abbrev sRow : Stmt := top 17
abbrev sDraw : Stmt := top 18
abbrev sStates : Stmt := top 20
abbrev sMaker : Stmt := top 21
abbrev sLet : Stmt := top 22
abbrev sLForm : Stmt := top 24
abbrev sSpoil : Stmt := top 25
abbrev sTold : Stmt := top 26
abbrev sLaw : Stmt := top 27
theorem bt_isinstance : bootBuiltins "isinstance" = some (.builtin "isinstance") := by decide +kernel
theorem bt_all : bootBuiltins "all" = some (.builtin "all") := by decide +kernel
theorem bt_len : bootBuiltins "len" = some (.builtin "len") := by decide +kernel
theorem bt_abs : bootBuiltins "abs" = some (.builtin "abs") := by decide +kernel
theorem bt_str : bootBuiltins "str" = some (.type "str") := by decide +kernel
theorem bt_int : bootBuiltins "int" = some (.type "int") := by decide +kernel
theorem bt_bool : bootBuiltins "bool" = some (.type "bool") := by decide +kernel
theorem bt_list : bootBuiltins "list" = some (.type "list") := by decide +kernel
theorem bt_tuple : bootBuiltins "tuple" = some (.type "tuple") := by decide +kernel
theorem bt_ve : bootBuiltins "ValueError" = some (.type "ValueError") := by decide +kernel
/-- the names that the text does not bind, and its constants -/
structure Nm (mg : Str → Option Value) : Prop where
  isi : mg "isinstance" = none
  all : mg "all" = none
  len : mg "len" = none
  abs : mg "abs" = none
  range : mg "range" = none
  str : mg "str" = none
  int : mg "int" = none
  bool : mg "bool" = none
  list : mg "list" = none
  tuple : mg "tuple" = none
  ve : mg "ValueError" = none
  az : ∃ u, mg "LETTERS" = some u ∧ RelV (.str az) u
  m5 : ∃ u, mg "MOST_LETTERS" = some u ∧ RelV (.int 5) u
  m40 : ∃ u, mg "MOST_STATES" = some u ∧ RelV (.int 40) u
/-- a def of the text as a name of the module -/
structure Df (K : PySem.W.Frag) (mg : Str → Option Value) (x : Str) (f : Addr) : Prop where
  m : mg x = some (.ref f)
  k : PySem.W.keepIn K (.ref f) = true
theorem isi_yes {K : PySem.W.Frag} {H : Hp} {x : V} {n : String} (t : TyOf K H x (.type n)) {m : String} {b : Bool} (h : kitB n m = some b) {Q : VK} (q : Q (.bl b) H) : rIsi K [x, .ty m] H Q :=
  ⟨x, .ty m, .type n, .type m, b, rfl, .ty m, .base t, kit_ty h, q⟩
theorem sz_le {n : Nat} (h : n ≤ 1000) : n ≤ sizeLine := Nat.le_of_lt (small1000 h)
end Fk
/-! is_alphabet, is_word -/
namespace Fk
open PySem PySem.Spec PyProof.Rows L2
def spAlpha : Sp := fun vs H Q _ => ∃ z : Str, vs = [.str z] ∧ z.length ≤ 1000 ∧ ∀ H', Same H H' → Q (.bl (alphaOk z)) H'
def spWord : Sp := fun vs H Q _ => ∃ w z : Str, vs = [.str w, .str z] ∧ z.length ≤ 1000 ∧ ∀ H', Same H H' → Q (.bl (wordOk w z)) H'
theorem iteNT {c A B : Prop} [Decidable c] (hc : ¬ c) (h : A) : if (!decide c) = true then A else B := by
  rw [decide_eq_false hc]
  exact h
section
variable {P : Program} {w : World} {K : PySem.W.Frag} {mg : Str → Option Value} {base : Heap}
/-- a comprehension of tests over a text's signs, behind the walked thing -/
theorem tests_body {z : Str} {σ : L2.St} {H : Hp} {i : Nat} {te : TE} {p : Nat → Bool} {Q : VK} (hz : z.length ≤ 1000)
    (ht : ∀ (c : Nat) (G : Hp) (R : VK), R (.bl (p c)) G → te ((wipe σ [i]).set i (some (.str ⟨#[c]⟩))) G R)
    (hk : ∀ (D : Addr) (H' : Hp), Same H H' → H' D = some (.lst ((z.cps.toList.map p).map V.bl)) → Q (.ref D) H') :
    tLc (fun _ _ R => R (Its z) H) (gName i) tYes te [i] σ H Q := by
  intro D hD
  refine lc_it (walk_str (z := z)) (fun j G => Same H G ∧ G D = some (.lst (((z.cps.toList.take j).map p).map V.bl))) ⟨fun b o e => ?_, upd_same⟩ (fun _ _ _ _ => True.intro) ?_ ?_
  · rw [upd_ne (ne_of_none e hD)]
    exact e
  · rintro j x G _ hj ⟨s, hG⟩ ⟨rfl, c, hc, rfl⟩
    have hc' : z.cps.toList[j]? = some c := by rw [Array.getElem?_toList]; exact hc
    refine ⟨wipe_one, ht c _ _ ⟨_, hG, ?_, fun b o e => ?_, ?_⟩⟩
    · rw [List.length_map, List.length_map, List.length_take]
      have : z.cps.size = z.length := rfl
      exact small_lt (by omega)
    · rw [upd_ne (ne_of_none e hD)]
      exact s b o e
    · rw [upd_same, List.take_add_one, hc']
      simp
  · rintro G ⟨s, hG⟩
    refine hk D G s ?_
    rw [hG, List.take_of_length_le (by rw [Array.length_toList]; exact Nat.le_refl _)]
def tTests (te0 te : TE) (i : Nat) : TE := fun σ H Q => te0 σ H fun x H1 => ∃ (z : Str) (p : Nat → Bool), x = .str z ∧ z.length ≤ 1000 ∧ (∀ (c : Nat) (G : Hp) (R : VK), R (.bl (p c)) G → te ((wipe σ [i]).set i (some (.str ⟨#[c]⟩))) G R) ∧
  ∀ (D : Addr) (H' : Hp), Same H1 H' → H' D = some (.lst ((z.cps.toList.map p).map V.bl)) → Q (.ref D) H'
theorem tests_imp {te0 te : TE} {i : Nat} (m : Mono te0) : ∀ σ H Q, tTests te0 te i σ H Q → tLc (iStr te0) (gName i) tYes te [i] σ H Q := fun σ H Q h =>
  m σ H _ _ (fun x H1 ⟨z, p, e, hz, ht, hk⟩ => ⟨z, e, tests_body (Q := Q) hz ht hk⟩) h
theorem scAlpha : FnScope ["thing", "letter"] ["thing"] (defScope sAlpha) := ⟨rfl, rfl, rfl, by decide +kernel, rfl, by decide +kernel, by decide +kernel⟩
theorem ok_alpha {f : Addr} {fd : FuncData} (F : Fun K "is_alphabet" "is_alphabet" sAlpha f fd) (T : Nm mg) : FnOk P w K mg base CX0 1 f fd ["thing"] spAlpha := by
  refine F.ok scAlpha (fun vs H Q E h => ?_) (fun cdv A outer s H vs Q E hr h => ?_)
  · obtain ⟨z, rfl, _⟩ := h
    rfl
  · obtain ⟨z, rfl, hz, k⟩ := h
    obtain ⟨u5, m5, r5⟩ := T.m5
    obtain ⟨ua, ma, ra⟩ := T.az
    refine ⟨_, pss_cons (ps_if (PW.pt (pw_or (pt_not (pt_val (pe_callB call_isi (by rfl) T.isi bt_isinstance (pa_cons (pv 0) (pa_cons (pe_bltn (v := .ty "str") (by rfl) T.str bt_str rfl) pa_nil)))))
        (pw_or1 (pt_not (pt_chain op_le op_le pe_int (pe_callB call_len_str (by rfl) T.len bt_len (pa_cons (pv 0) pa_nil)) (pe_glob (by rfl) m5 r5)))))) (pss_one (ps_ret pe_bl)) pss_nil)
      (pss_one (ps_ret (pe_callB (cr_all rfl) (by rfl) T.all bt_all (pa_cons
        (pe_imp (pe_lc (own := [("letter", 1)]) (g := gName 1) (tt := tYes) rfl scAlpha.nd (pi_str (pv 0)) (blkOk_by (own := [("letter", 1)]) (N := ["thing", "letter"]) (sc := defScope sAlpha) (by decide +kernel))
          (fun _ _ _ _ _ => pg_name (i := 1) scAlpha.nd rfl (Or.inl rfl)) (fun _ _ _ _ _ => pts_nil)
          (fun _ _ _ _ _ => pe_and (pe_cmpR op_in_sign (pv 1) (pe_glob (by rfl) ma ra) (by with_unfolding_all rfl))
            (pe_one (pe_cmpR op_eq (pe_m1 PySem.F.slot_str_count PySem.F.type_str_count mt_count (pv 0) (pv 1)) pe_int (nomark _))))) (tests_imp mono_var)) pa_nil)))), ?_⟩
    refine ⟨_, rfl, .str z, .ty "str", .type "str", .type "str", true, rfl, .ty _, .base (.str z), kit_ty (by decide +kernel), true, rfl, ?_⟩
    refine iteF ⟨_, rfl, z, rfl, sz_le hz, _, _, rfl, rfl, _, rfl, ?_⟩
    refine ite2 (fun c1 => ?_) (fun c1 => ?_)
    · refine ⟨_, _, rfl, rfl, _, rfl, ?_⟩
      by_cases c2 : (z.length : Int) ≤ 5
      · refine iteNS c2 ?_
        have ea : alphaOk z = (z.cps.toList.map (letOk z)).all id := by
          unfold alphaOk
          rw [c1, decide_eq_true c2, Bool.true_and, Bool.true_and]
        refine ⟨_, rfl, z, letOk z, rfl, hz, fun c G R q => ?_, fun D H' s hD => ⟨D, _, rfl, SqL.of hD, by have q := k H' s; rw [ea] at q; exact q⟩⟩
        refine ⟨_, rfl, c, az, rfl, rfl, _, rfl, ?_⟩
        refine ite2 (fun hm => ?_) (fun hm => ?_)
        · refine ⟨_, rfl, ⟨z, rfl⟩, _, rfl, z, _, rfl, rfl, rfl, ?_⟩
          unfold letOk at q
          rw [hm, Bool.true_and] at q
          exact q
        · unfold letOk at q
          rw [Bool.eq_false_iff.mpr hm, Bool.false_and] at q
          exact q
      · refine iteNT c2 ?_
        have q := k H (Same.refl H)
        have ea : alphaOk z = false := by
          unfold alphaOk
          rw [decide_eq_false c2, Bool.false_and, Bool.and_false]
        rw [ea] at q
        exact q
    · refine ⟨_, rfl, ?_⟩
      have q := k H (Same.refl H)
      have ea : alphaOk z = false := by
        unfold alphaOk
        rw [Bool.eq_false_iff.mpr c1, Bool.false_and]
      rw [ea] at q
      exact q
theorem scWord : FnScope ["alphabet", "thing", "letter"] ["alphabet", "thing"] (defScope sWord) := ⟨rfl, rfl, rfl, by decide +kernel, rfl, by decide +kernel, by decide +kernel⟩
theorem ok_word {f : Addr} {fd : FuncData} (F : Fun K "is_word" "is_word" sWord f fd) (T : Nm mg) : FnOk P w K mg base CX0 1 f fd ["alphabet", "thing"] spWord := by
  refine F.ok scWord (fun vs H Q E h => ?_) (fun cdv A outer s H vs Q E hr h => ?_)
  · obtain ⟨v, z, rfl, _⟩ := h
    rfl
  · obtain ⟨v, z, rfl, hz, k⟩ := h
    refine ⟨_, pss_one (ps_ret (pe_and (pe_callB call_isi (by rfl) T.isi bt_isinstance (pa_cons (pv 1) (pa_cons (pe_bltn (v := .ty "str") (by rfl) T.str bt_str rfl) pa_nil)))
      (pe_one (pe_callB (cr_all rfl) (by rfl) T.all bt_all (pa_cons
        (pe_imp (pe_lc (own := [("letter", 2)]) (g := gName 2) (tt := tYes) rfl scWord.nd (pi_str (pv 1)) (blkOk_by (own := [("letter", 2)]) (N := ["alphabet", "thing", "letter"]) (sc := defScope sWord) (by decide +kernel))
          (fun _ _ _ _ _ => pg_name (i := 2) scWord.nd rfl (Or.inl rfl)) (fun _ _ _ _ _ => pts_nil)
          (fun _ _ _ _ _ => pe_cmpR op_in_sign (pv 2) (pv 0) (by with_unfolding_all rfl))) (tests_imp mono_var)) pa_nil))))), ?_⟩
    refine ⟨_, rfl, .str z, .ty "str", .type "str", .type "str", true, rfl, .ty _, .base (.str z), kit_ty (by decide +kernel), true, rfl, ?_⟩
    refine iteT ⟨_, rfl, z, fun c => decide (c ∈ v.cps.toList), rfl, hz, fun c G R q => ?_, fun D H' s hD => ⟨D, _, rfl, SqL.of hD, k H' s⟩⟩
    exact ⟨_, rfl, _, rfl, c, v, rfl, rfl, q⟩
end
end Fk
/-! _are_rows -/
namespace Fk
open PySem PySem.Spec PyProof.Rows L2
def spRows : Sp := fun vs H Q _ => ∃ (p : Addr) (rs : List Addr) (rows : List (List Int)) (n : Nat), vs = [.ref p, .int (n : Int)] ∧ Nest H p rs (vI rows) ∧ rs.length ≤ 1000 ∧ Q (.bl (rowsOk rows n)) H
theorem vI_get {rows : List (List Int)} {i : Nat} {vs : List V} (h : (vI rows)[i]? = some vs) : ∃ row, rows[i]? = some row ∧ vs = row.map V.int := by
  unfold vI at h
  rw [List.getElem?_map] at h
  cases e : rows[i]? with
  | none =>
    rw [e] at h
    cases h
  | some row =>
    rw [e] at h
    exact ⟨row, rfl, (Option.some.inj h).symm⟩
theorem vS_get {rows : List (List Str)} {i : Nat} {vs : List V} (h : (vS rows)[i]? = some vs) : ∃ row, rows[i]? = some row ∧ vs = row.map V.str := by
  unfold vS at h
  rw [List.getElem?_map] at h
  cases e : rows[i]? with
  | none =>
    rw [e] at h
    cases h
  | some row =>
    rw [e] at h
    exact ⟨row, rfl, (Option.some.inj h).symm⟩
theorem map_get {α : Type} {f : α → V} {l : List α} {i : Nat} {x : V} (h : (l.map f)[i]? = some x) : ∃ a, l[i]? = some a ∧ x = f a := by
  rw [List.getElem?_map] at h
  cases e : l[i]? with
  | none =>
    rw [e] at h
    cases h
  | some a =>
    rw [e] at h
    exact ⟨a, rfl, (Option.some.inj h).symm⟩
theorem all_take {α : Type} {p : α → Bool} {l : List α} {i : Nat} {x : α} (h : l[i]? = some x) (ht : (l.take i).all p = true) (hx : p x = true) : (l.take (i + 1)).all p = true := by
  rw [List.take_add_one, h, List.all_append, ht]
  simp [hx]
def stOk (L : Nat) (s : Int) : Bool := decide (0 ≤ s) && decide (s < (L : Int))
section
variable {P : Program} {w : World} {K : PySem.W.Frag} {mg : Str → Option Value} {base : Heap}
theorem scRows : FnScope ["thing", "letters", "row", "state"] ["thing", "letters"] (defScope sRows) := ⟨rfl, rfl, rfl, by decide +kernel, rfl, by decide +kernel, by decide +kernel⟩
theorem ok_rows {f : Addr} {fd : FuncData} (F : Fun K "_are_rows" "_are_rows" sRows f fd) (T : Nm mg) : FnOk P w K mg base CX0 1 f fd ["thing", "letters"] spRows := by
  refine F.ok scRows (fun vs H Q E h => ?_) (fun cdv A outer s H vs Q E hr h => ?_)
  · obtain ⟨p, rs, rows, n, rfl, _⟩ := h
    rfl
  · obtain ⟨p, rs, rows, n, rfl, hn, hz, k⟩ := h
    obtain ⟨u40, m40, r40⟩ := T.m40
    have hl : rs.length = rows.length := by rw [hn.len, vI_len]
    refine ⟨_, pss_cons (ps_if (PW.pt (pw_or (pt_not (pt_val (pe_callB call_isi (by rfl) T.isi bt_isinstance (pa_cons (pv 0) (pa_cons (pe_bltn (v := .ty "list") (by rfl) T.list bt_list rfl) pa_nil)))))
        (pw_or1 (pt_not (pt_chain op_le op_le pe_int (pe_callB call_len_seq (by rfl) T.len bt_len (pa_cons (pv 0) pa_nil)) (pe_glob (by rfl) m40 r40)))))) (pss_one (ps_ret pe_bl)) pss_nil)
      (pss_cons (ps_for PassesOwn.never rfl (pi_list (pv 0)) (pg_name (i := 2) scRows.nd rfl (Or.inl rfl))
        (pss_cons (ps_if (PW.pt (pw_or (pt_not (pt_val (pe_callB call_isi (by rfl) T.isi bt_isinstance (pa_cons (pv 2) (pa_cons (pe_bltn (v := .ty "list") (by rfl) T.list bt_list rfl) pa_nil)))))
            (pw_or1 (pt_cmpR op_ne (pe_callB call_len_seq (by rfl) T.len bt_len (pa_cons (pv 2) pa_nil)) (pv 1) (nomark _))))) (pss_one (ps_ret pe_bl)) pss_nil)
          (pss_one (ps_for PassesOwn.never rfl (pi_list (pv 2)) (pg_name (i := 3) scRows.nd rfl (Or.inl rfl))
            (pss_one (ps_if (PW.pt (pw_or (pt_not (pt_val (pe_callB call_isi (by rfl) T.isi bt_isinstance (pa_cons (pv 3) (pa_cons (pe_bltn (v := .ty "int") (by rfl) T.int bt_int rfl) pa_nil)))))
              (pw_or (pt_val (pe_callB call_isi (by rfl) T.isi bt_isinstance (pa_cons (pv 3) (pa_cons (pe_bltn (v := .ty "bool") (by rfl) T.bool bt_bool rfl) pa_nil))))
                (pw_or1 (pt_not (pt_chain op_le op_lt pe_int (pv 3) (pe_callB call_len_seq (by rfl) T.len bt_len (pa_cons (pv 0) pa_nil)))))))) (pss_one (ps_ret pe_bl)) pss_nil))))))
      (pss_one (ps_ret pe_bl))), ?_⟩
    have hL : ((rs.map V.ref).length : Int) = (rows.length : Int) := by rw [List.length_map, hl]
    -- the head test
    refine ⟨_, rfl, _, .ty "list", .type "list", .type "list", true, rfl, .ty _, .base (.lst hn.lst), kit_ty (by decide +kernel), true, rfl, ?_⟩
    refine iteF ⟨_, rfl, p, _, rfl, .inl (SqL.of hn.lst), _, _, rfl, rfl, _, rfl, ?_⟩
    refine ite2 (fun c1 => ?_) (fun c1 => ?_)
    rotate_left
    · refine ⟨_, rfl, ?_⟩
      have c := of_decide_eq_false (Bool.eq_false_iff.mpr c1)
      have e : rowsOk rows n = false := by
        unfold rowsOk
        rw [decide_eq_false (show ¬ 1 ≤ rows.length by omega), Bool.false_and]
      rw [e] at k
      exact k
    refine ⟨_, _, rfl, rfl, _, rfl, ?_⟩
    by_cases c2 : ((rs.map V.ref).length : Int) ≤ 40
    rotate_left
    · refine iteNT c2 ?_
      have e : rowsOk rows n = false := rows_many (by omega)
      rw [e] at k
      exact k
    refine iteNS c2 ?_
    have c1 := of_decide_eq_true c1
    -- the rows
    refine ⟨_, rfl, p, rfl, ⟨_, SqL.of hn.lst⟩, for_list (K := K) (a := p) (xs := rs.map V.ref) (fun i σ H' => ∃ v2 v3 : Option V, σ = [some (.ref p), some (.int (n : Int)), v2, v3] ∧ H' = H ∧ (rows.take i).all (rowOk rows.length n) = true)
      ⟨none, none, rfl, rfl, by simp⟩ (fun i σ H' _ ⟨_, _, _, e, _⟩ => by rw [e]; exact SqL.of hn.lst) ?_ ?_⟩
    · rintro i x σ H' hi ⟨v2, v3, rfl, rfl, hall⟩
      obtain ⟨r, hri, rfl⟩ := map_get hi
      obtain ⟨vs, hv, hrr⟩ := hn.of_addr hri
      obtain ⟨row, hrow, rfl⟩ := vI_get hv
      have bad : rowOk rows.length n row = false → Q (.bl false) H' := fun hb => by
        have e : rowsOk rows n = false := rows_bad hrow hb
        rw [e] at k
        exact k
      refine ⟨_, rfl, _, .ty "list", .type "list", .type "list", true, rfl, .ty _, .base (.lst hrr), kit_ty (by decide +kernel), true, rfl, ?_⟩
      refine iteF ⟨_, rfl, r, _, rfl, .inl (SqL.of hrr), _, rfl, rfl, _, rfl, ?_⟩
      by_cases c3 : V.int ((row.map V.int).length : Int) = V.int (n : Int)
      rotate_left
      · refine iteNT c3 (bad (row_len fun z => c3 ?_))
        rw [List.length_map, z]
      refine iteNS c3 ?_
      have hn3 : row.length = n := by
        have z := V.int.inj c3
        rw [List.length_map] at z
        exact Int.ofNat.inj z
      -- the states
      refine ⟨_, rfl, r, rfl, ⟨_, SqL.of hrr⟩, for_list (K := K) (a := r) (xs := row.map V.int) (fun j σ G => ∃ v3 : Option V, σ = [some (.ref p), some (.int (n : Int)), some (.ref r), v3] ∧ G = H' ∧ (row.take j).all (stOk rows.length) = true)
        ⟨_, rfl, rfl, by simp⟩ (fun j σ G _ ⟨_, _, e, _⟩ => by rw [e]; exact SqL.of hrr) ?_ ?_⟩
      · rintro j y σ G hj ⟨v4, rfl, rfl, hall2⟩
        obtain ⟨st, hst, rfl⟩ := map_get hj
        refine ⟨_, rfl, _, .ty "int", .type "int", .type "int", true, rfl, .ty _, .base (.int st), kit_ty (by decide +kernel), true, rfl, ?_⟩
        refine iteF ⟨_, rfl, _, .ty "bool", .type "int", .type "bool", false, rfl, .ty _, .base (.int st), kit_ty (by decide +kernel), false, rfl, ?_⟩
        refine iteF ⟨_, rfl, _, _, rfl, rfl, _, rfl, ?_⟩
        refine ite2 (fun c4 => ?_) (fun c4 => ?_)
        rotate_left
        · refine ⟨_, rfl, bad ?_⟩
          unfold rowOk
          rw [all_bad (p := fun s => decide (0 ≤ s) && decide (s < (rows.length : Int))) hst (by rw [Bool.eq_false_iff.mpr c4]; rfl), Bool.and_false]
        refine ⟨_, rfl, p, _, rfl, .inl (SqL.of hn.lst), _, _, rfl, rfl, _, rfl, ?_⟩
        by_cases c5 : st < ((rs.map V.ref).length : Int)
        rotate_left
        · refine iteNT c5 (bad ?_)
          unfold rowOk
          rw [all_bad (p := fun s => decide (0 ≤ s) && decide (s < (rows.length : Int))) hst (by rw [decide_eq_false (show ¬ st < (rows.length : Int) by omega), Bool.and_false]), Bool.and_false]
        refine iteNS c5 ?_
        refine ⟨_, rfl, rfl, all_take hst hall2 ?_⟩
        unfold stOk
        rw [c4, decide_eq_true (show st < (rows.length : Int) by omega)]
        rfl
      · rintro σ G ⟨v4, rfl, rfl, hall2⟩
        refine ⟨_, _, rfl, rfl, all_take hrow hall ?_⟩
        rw [List.length_map, List.take_length] at hall2
        unfold rowOk
        rw [decide_eq_true hn3]
        exact hall2
    · rintro σ H' ⟨v2, v3, rfl, rfl, hall⟩
      rw [List.length_map, hl, List.take_length] at hall
      have e : rowsOk rows n = true := by
        unfold rowsOk
        rw [decide_eq_true (show 1 ≤ rows.length by omega), decide_eq_true (show rows.length ≤ 40 by omega), hall]
        rfl
      rw [e] at k
      exact k
end
end Fk
/-! _is_table -/
namespace Fk
open PySem PySem.Spec PyProof.Rows L2
def spTab : Sp := fun vs H Q _ => ∃ (p : Addr) (rs : List Addr) (t : List (List Str)) (L R n : Nat) (w : Str), vs = [.ref p, .int (L : Int), .int (R : Int), .int (n : Int), .str w] ∧ Nest H p rs (vS t) ∧ rs.length ≤ 1000 ∧
  (∀ row, row ∈ t → ∀ z, z ∈ row → z.length ≤ 1000) ∧ ∀ H', Same H H' → Q (.bl (tableOk t L R n w)) H'
section
variable {P : Program} {w : World} {K : PySem.W.Frag} {mg : Str → Option Value} {base : Heap}
theorem scTab : FnScope ["thing", "left", "right", "letters", "writes", "row", "told"] ["thing", "left", "right", "letters", "writes"] (defScope sTab) := ⟨rfl, rfl, rfl, by decide +kernel, rfl, by decide +kernel, by decide +kernel⟩
theorem ok_tab {f fW : Addr} {fd fdW : FuncData} (F : Fun K "_is_table" "_is_table" sTab f fd) (T : Nm mg) (DW : Df K mg "is_word" fW) (GW : FnOk P w K mg base CX0 1 fW fdW ["alphabet", "thing"] spWord) (bW : Binds K fdW ["alphabet", "thing"] []) :
    FnOk P w K mg base CX0 2 f fd ["thing", "left", "right", "letters", "writes"] spTab := by
  refine F.ok scTab (fun vs H Q E h => ?_) (fun cdv A outer s H vs Q E hr h => ?_)
  · obtain ⟨p, rs, t, L, R, n, v, rfl, _⟩ := h
    rfl
  · obtain ⟨p, rs, t, L, R, n, v, rfl, hn, hz, hs, k⟩ := h
    have hl : rs.length = t.length := by rw [hn.len, vS_len]
    refine ⟨_, pss_cons (ps_if (PW.pt (pw_or (pt_not (pt_val (pe_callB call_isi (by rfl) T.isi bt_isinstance (pa_cons (pv 0) (pa_cons (pe_bltn (v := .ty "list") (by rfl) T.list bt_list rfl) pa_nil)))))
        (pw_or1 (pt_cmpR op_ne (pe_callB call_len_seq (by rfl) T.len bt_len (pa_cons (pv 0) pa_nil)) (pv 1) (nomark _))))) (pss_one (ps_ret pe_bl)) pss_nil)
      (pss_cons (ps_for PassesOwn.never rfl (pi_list (pv 0)) (pg_name (i := 5) scTab.nd rfl (Or.inl rfl))
        (pss_cons (ps_if (PW.pt (pw_or (pt_not (pt_val (pe_callB call_isi (by rfl) T.isi bt_isinstance (pa_cons (pv 5) (pa_cons (pe_bltn (v := .ty "list") (by rfl) T.list bt_list rfl) pa_nil)))))
            (pw_or1 (pt_cmpR op_ne (pe_callB call_len_seq (by rfl) T.len bt_len (pa_cons (pv 5) pa_nil)) (pv 2) (nomark _))))) (pss_one (ps_ret pe_bl)) pss_nil)
          (pss_one (ps_for PassesOwn.never rfl (pi_list (pv 5)) (pg_name (i := 6) scTab.nd rfl (Or.inl rfl))
            (pss_one (ps_if (PW.pt (pw_or (pt_not (pt_val (pe_call GW hr (by rfl) DW.m DW.k bW .nil pass0 (pa_cons (pv 4) (pa_cons (pv 6) pa_nil)))))
              (pw_or1 (pt_cmpR op_ne (pe_callB call_len_str (by rfl) T.len bt_len (pa_cons (pv 6) pa_nil)) (pv 3) (nomark _))))) (pss_one (ps_ret pe_bl)) pss_nil))))))
      (pss_one (ps_ret pe_bl))), ?_⟩
    refine ⟨_, rfl, _, .ty "list", .type "list", .type "list", true, rfl, .ty _, .base (.lst hn.lst), kit_ty (by decide +kernel), true, rfl, ?_⟩
    refine iteF ⟨_, rfl, p, _, rfl, .inl (SqL.of hn.lst), _, rfl, rfl, _, rfl, ?_⟩
    by_cases c1 : V.int ((rs.map V.ref).length : Int) = V.int (L : Int)
    rotate_left
    · refine iteNT c1 ?_
      have e : tableOk t L R n v = false := table_len fun z => c1 (by rw [List.length_map, hl, z])
      have q := k H (Same.refl H)
      rw [e] at q
      exact q
    refine iteNS c1 ?_
    have c1' : t.length = L := by
      have z := V.int.inj c1
      rw [List.length_map, hl] at z
      exact Int.ofNat.inj z
    refine ⟨_, rfl, p, rfl, ⟨_, SqL.of hn.lst⟩, for_list (K := K) (a := p) (xs := rs.map V.ref) (fun i σ G => ∃ v5 v6 : Option V, σ = [some (.ref p), some (.int (L : Int)), some (.int (R : Int)), some (.int (n : Int)), some (.str v), v5, v6] ∧ Same H G ∧ (t.take i).all (trowOk R n v) = true)
      ⟨none, none, rfl, Same.refl H, by simp⟩ (fun i σ G _ ⟨_, _, _, e, _⟩ => SqL.of (e _ _ hn.lst)) ?_ ?_⟩
    · rintro i x σ G hi ⟨v5, v6, rfl, sm, hall⟩
      obtain ⟨r, hri, rfl⟩ := map_get hi
      obtain ⟨vs, hv, hr0⟩ := hn.of_addr hri
      obtain ⟨row, hrow, rfl⟩ := vS_get hv
      have hrr := sm _ _ hr0
      have bad : trowOk R n v row = false → ∀ G', Same H G' → Q (.bl false) G' := fun hb G' s' => by
        have e : tableOk t L R n v = false := table_row hrow hb
        have q := k G' s'
        rw [e] at q
        exact q
      refine ⟨_, rfl, _, .ty "list", .type "list", .type "list", true, rfl, .ty _, .base (.lst hrr), kit_ty (by decide +kernel), true, rfl, ?_⟩
      refine iteF ⟨_, rfl, r, _, rfl, .inl (SqL.of hrr), _, rfl, rfl, _, rfl, ?_⟩
      by_cases c3 : V.int ((row.map V.str).length : Int) = V.int (R : Int)
      rotate_left
      · refine iteNT c3 (bad (trow_len fun z => c3 ?_) _ sm)
        rw [List.length_map, z]
      refine iteNS c3 ?_
      have hn3 : row.length = R := by
        have z := V.int.inj c3
        rw [List.length_map] at z
        exact Int.ofNat.inj z
      refine ⟨_, rfl, r, rfl, ⟨_, SqL.of hrr⟩, for_list (K := K) (a := r) (xs := row.map V.str) (fun j σ G => ∃ v6 : Option V, σ = [some (.ref p), some (.int (L : Int)), some (.int (R : Int)), some (.int (n : Int)), some (.str v), some (.ref r), v6] ∧ Same H G ∧ (row.take j).all (toldOk n v) = true)
        ⟨_, rfl, sm, by simp⟩ (fun j σ G _ ⟨_, _, e, _⟩ => SqL.of (e _ _ hr0)) ?_ ?_⟩
      · rintro j y σ G2 hj ⟨v7, rfl, sm2, hall2⟩
        obtain ⟨z, hzj, rfl⟩ := map_get hj
        have hzl := hs row (List.mem_of_getElem? hrow) z (List.mem_of_getElem? hzj)
        refine ⟨_, rfl, _, rfl, v, z, rfl, hzl, fun G3 s3 => ⟨_, rfl, ?_⟩⟩
        have sm3 := sm2.trans s3
        cases c4 : wordOk v z with
        | false =>
          refine iteT (bad (trow_told hzj ?_) _ sm3)
          unfold toldOk
          rw [c4]
          rfl
        | true =>
          refine iteF ⟨_, rfl, z, rfl, sz_le hzl, _, rfl, rfl, _, rfl, ?_⟩
          by_cases c5 : V.int (z.length : Int) = V.int (n : Int)
          rotate_left
          · refine iteNT c5 (bad (trow_told hzj (told_len fun q => c5 ?_)) _ sm3)
            rw [q]
          refine iteNS c5 ?_
          refine ⟨_, rfl, sm3, all_take hzj hall2 ?_⟩
          have c5' : z.length = n := Int.ofNat.inj (V.int.inj c5)
          unfold toldOk
          rw [c4, decide_eq_true c5']
          rfl
      · rintro σ G2 ⟨v7, rfl, sm2, hall2⟩
        refine ⟨_, _, rfl, sm2, all_take hrow hall ?_⟩
        rw [List.length_map, List.take_length] at hall2
        unfold trowOk
        rw [decide_eq_true hn3]
        exact hall2
    · rintro σ G ⟨v5, v6, rfl, sm, hall⟩
      rw [List.length_map, hl, List.take_length] at hall
      have e : tableOk t L R n v = true := by
        unfold tableOk
        rw [decide_eq_true c1', hall]
        rfl
      have q := k G sm
      rw [e] at q
      exact q
end
end Fk
/-! Machine.__init__ -/
namespace Fk
open PySem PySem.Spec PyProof.Rows L2
/-- a def of the module that keeps its promise -/
structure Cal (P : Program) (w : World) (K : PySem.W.Frag) (mg : Str → Option Value) (base : Heap) (x : Str) (cx : CXT) (k : Nat) (ps : List Str) (sp : Sp) : Prop where
  ex : ∃ (f : Addr) (fd : FuncData), Df K mg x f ∧ FnOk P w K mg base cx k f fd ps sp ∧ Binds K fd ps []
/-- the class Machine -/
structure MCls (K : PySem.W.Frag) (C : Addr) : Prop where
  cl : Cls K C
  n1 : NoAttr K C "reads"
  n2 : NoAttr K C "writes"
  n3 : NoAttr K C "left"
  n4 : NoAttr K C "right"
  n5 : NoAttr K C "table"
/-- the error class as a name -/
structure ECls (P : Program) (w : World) (K : PySem.W.Frag) (mg : Str → Option Value) (base : Heap) (C : Addr) : Prop where
  ox : OexC K C
  m : mg "MachineError" = some (.ref C)
  ex : ∃ (f : Addr) (fd : FuncData), PySem.W.findIn K (.ref C) "__init__" = some (some (.ref f)) ∧ PySem.W.typeIn K (.ref f) = some (.type "function") ∧ FnOk P w K mg base CX0 1 f fd ["self", "reason"] (spErr C) ∧ Binds K fd ["self", "reason"] []
structure Small (m : Parts) : Prop where
  a : m.reads.length ≤ 1000
  b : m.writes.length ≤ 1000
  l : m.left.length ≤ 1000
  r : m.right.length ≤ 1000
  t : m.table.length ≤ 1000
  z : ∀ row, row ∈ m.table → ∀ z, z ∈ row → z.length ≤ 1000
def mF (m : Parts) (l r t : Addr) : List (Str × V) := putF "table" (.ref t) (putF "right" (.ref r) (putF "left" (.ref l) (putF "writes" (.str m.writes) (putF "reads" (.str m.reads) []))))
structure MachAt (C : Addr) (H : Hp) (x : Addr) (m : Parts) (l : Addr) (ls : List Addr) (r : Addr) (rs : List Addr) (t : Addr) (ts : List Addr) : Prop where
  ob : ∃ dx, H x = some (.ins C dx (mF m l r t))
  nl : Nest H l ls (vI m.left)
  nr : Nest H r rs (vI m.right)
  nt : Nest H t ts (vS m.table)
def spMach (C CE : Addr) : Sp := fun vs H Q E => ∃ (x dx l r t : Addr) (ls rs ts : List Addr) (m : Parts), vs = [.ref x, .str m.reads, .str m.writes, .ref l, .ref r, .ref t] ∧ H x = some (.ins C dx []) ∧
  Nest H l ls (vI m.left) ∧ Nest H r rs (vI m.right) ∧ Nest H t ts (vS m.table) ∧ Small m ∧
  (machineOk m = true → ∀ (H' : Hp) (l' : Addr) (ls' : List Addr) (r' : Addr) (rs' : List Addr) (t' : Addr) (ts' : List Addr), (∀ b o, H b = some o → b ≠ x → H' b = some o) → MachAt C H' x m l' ls' r' rs' t' ts' →
    (∀ c, c ∈ l' :: ls' ∨ c ∈ r' :: rs' ∨ c ∈ t' :: ts' → H c = none) → Q .non H') ∧
  (machineOk m = false → ∀ (H' : Hp) (d : Addr), Same H H' → H' d = some (.xd [("reason", .str "not a machine")]) → E (.ref CE) (some d) H')
/-- what stood but x stands; x holds fs -/
structure Mid (H G : Hp) (C x dx : Addr) (fs : List (Str × V)) : Prop where
  k : ∀ b o, H b = some o → b ≠ x → G b = some o
  ob : G x = some (.ins C dx fs)
  i : ∃ o, H x = some o
theorem Mid.store {H G : Hp} {C x dx : Addr} {fs fs' : List (Str × V)} (m : Mid H G C x dx fs) : Mid H (upd G x (.ins C dx fs')) C x dx fs' :=
  ⟨fun b o e hb => by rw [upd_ne hb]; exact m.k b o e hb, upd_same, m.i⟩
theorem Mid.same {H G G' : Hp} {C x dx : Addr} {fs : List (Str × V)} (m : Mid H G C x dx fs) (s : Same G G') : Mid H G' C x dx fs :=
  ⟨fun b o e hb => s _ _ (m.k b o e hb), s _ _ m.ob, m.i⟩
theorem Mid.old {H G : Hp} {C x dx c : Addr} {fs : List (Str × V)} (m : Mid H G C x dx fs) (h : G c = none) : H c = none := by
  cases e : H c with
  | none => rfl
  | some o =>
    by_cases hc : c = x
    · rw [hc, m.ob] at h
      cases h
    · rw [m.k c o e hc] at h
      cases h
theorem Mid.off {H G : Hp} {C x dx c : Addr} {fs : List (Str × V)} (m : Mid H G C x dx fs) (h : G c = none) : x ≠ c := fun e => by
  rw [← e, m.ob] at h
  cases h
theorem Nest.mid {H G : Hp} {C x dx p : Addr} {fs0 fs : List (Str × V)} {rs : List Addr} {vss : List (List V)} (n : Nest H p rs vss) (hx : H x = some (.ins C dx fs0)) (m : Mid H G C x dx fs) : Nest G p rs vss := n.keep fun c hc o e => by
  refine m.k c o e fun z => ?_
  subst z
  rcases List.mem_cons.mp hc with q | q
  · have e1 := n.lst
    rw [← q, hx] at e1
    cases e1
  · obtain ⟨i, hi⟩ := List.mem_iff_getElem?.mp q
    obtain ⟨vs, _, e1⟩ := n.of_addr hi
    rw [hx] at e1
    cases e1
section
variable {P : Program} {w : World} {K : PySem.W.Frag} {mg : Str → Option Value} {base : Heap}
theorem scMach : FnScope ["self", "reads", "writes", "left", "right", "table", "good", "row"] ["self", "reads", "writes", "left", "right", "table"] (defScope sMach) := ⟨rfl, rfl, rfl, by decide +kernel, rfl, by decide +kernel, by decide +kernel⟩
theorem ok_mach {f C CE : Addr} {fd : FuncData} (F : Fun K "__init__" "Machine.__init__" sMach f fd) (T : Nm mg) (M : MCls K C) (X : ECls P w K mg base CE) (cA : Cal P w K mg base "is_alphabet" CX0 1 ["thing"] spAlpha)
    (cR : Cal P w K mg base "_are_rows" CX0 1 ["thing", "letters"] spRows) (cT : Cal P w K mg base "_is_table" CX0 2 ["thing", "left", "right", "letters", "writes"] spTab) :
    FnOk P w K mg base (L2.CX P w) 3 f fd ["self", "reads", "writes", "left", "right", "table"] (spMach C CE) := by
  obtain ⟨fA, fdA, DA, GA, bA⟩ := cA.ex
  obtain ⟨fR, fdR, DR, GR, bR⟩ := cR.ex
  obtain ⟨fT, fdT, DT, GT, bT⟩ := cT.ex
  obtain ⟨fE, fdE, iE, tE, GE, bE⟩ := X.ex
  refine F.okX scMach (fun vs H Q E h => ?_) (fun cdv A outer s H vs Q E hr h => ?_)
  · obtain ⟨x, dx, l, r, t, ls, rs, ts, m, rfl, _⟩ := h
    rfl
  · obtain ⟨x, dx, l, r, t, ls, rs, ts, m, rfl, hx, nl, nr, nt, sm, kG, kB⟩ := h
    have hr1 : Room 1 _ := hr.mono (by decide)
    have kl : ls.length = m.left.length := by rw [nl.len, vI_len]
    have kr : rs.length = m.right.length := by rw [nr.len, vI_len]
    have kt : ts.length = m.table.length := by rw [nt.len, vS_len]
    refine ⟨_, C8.pss_cut (ps_set (i := 6) scMach.nd rfl (Or.inl rfl) (pe_and (pe_call GA hr1 (by rfl) DA.m DA.k bA .nil pass0 (pa_cons (pv 1) pa_nil)) (pe_one (pe_call GA hr1 (by rfl) DA.m DA.k bA .nil pass0 (pa_cons (pv 2) pa_nil)))))
      (C8.pss_cut (ps_set (i := 6) scMach.nd rfl (Or.inl rfl) (pe_and (pv 6) (pe_and (pe_call GR hr1 (by rfl) DR.m DR.k bR .nil pass0 (pa_cons (pv 3) (pa_cons (pe_callB call_len_str (by rfl) T.len bt_len (pa_cons (pv 1) pa_nil)) pa_nil)))
          (pe_one (pe_call GR hr1 (by rfl) DR.m DR.k bR .nil pass0 (pa_cons (pv 4) (pa_cons (pe_callB call_len_str (by rfl) T.len bt_len (pa_cons (pv 1) pa_nil)) pa_nil)))))))
      (C8.pss_cut (ps_if (PW.pt (pw_or (pt_not (pt_val (pv 6))) (pw_or1 (pt_not (pt_val (pe_call GT hr (by rfl) DT.m DT.k bT .nil pass0 (pa_cons (pv 5) (pa_cons (pe_callB call_len_seq (by rfl) T.len bt_len (pa_cons (pv 3) pa_nil))
          (pa_cons (pe_callB call_len_seq (by rfl) T.len bt_len (pa_cons (pv 4) pa_nil)) (pa_cons (pe_callB call_len_str (by rfl) T.len bt_len (pa_cons (pv 1) pa_nil)) (pa_cons (pv 2) pa_nil)))))))))))
          (pss_one (ps_raise rfl (takes_of rfl rfl rfl rfl) (pmk_oex X.ox iE tE GE hr bE .nil pass0 (by rfl) X.m (pa_cons pe_str pa_nil)))) pss_nil)
      (pss_cons (ps_fld (pv 0) (pv 1) rfl)
      (pss_cons (ps_fld (pv 0) (pv 2) rfl)
      (pss_cons (ps_fld (pv 0) (pe_imp (pe_lc (own := [("row", 7)]) (g := gName 7) (tt := tYes) rfl scMach.nd (pi_list (pv 3)) (blkOk_by (own := [("row", 7)]) (N := ["self", "reads", "writes", "left", "right", "table", "good", "row"]) (sc := defScope sMach) (by decide +kernel))
          (fun _ _ _ _ _ => pg_name (i := 7) scMach.nd rfl (Or.inl rfl)) (fun _ _ _ _ _ => pts_nil) (fun _ _ _ _ _ => pe_callTy call_list_of (by rfl) T.list bt_list (pa_cons (pv 7) pa_nil))) (copy_imp mono_var)) rfl)
      (pss_cons (ps_fld (pv 0) (pe_imp (pe_lc (own := [("row", 7)]) (g := gName 7) (tt := tYes) rfl scMach.nd (pi_list (pv 4)) (blkOk_by (own := [("row", 7)]) (N := ["self", "reads", "writes", "left", "right", "table", "good", "row"]) (sc := defScope sMach) (by decide +kernel))
          (fun _ _ _ _ _ => pg_name (i := 7) scMach.nd rfl (Or.inl rfl)) (fun _ _ _ _ _ => pts_nil) (fun _ _ _ _ _ => pe_callTy call_list_of (by rfl) T.list bt_list (pa_cons (pv 7) pa_nil))) (copy_imp mono_var)) rfl)
      (pss_one (ps_fld (pv 0) (pe_imp (pe_lc (own := [("row", 7)]) (g := gName 7) (tt := tYes) rfl scMach.nd (pi_list (pv 5)) (blkOk_by (own := [("row", 7)]) (N := ["self", "reads", "writes", "left", "right", "table", "good", "row"]) (sc := defScope sMach) (by decide +kernel))
          (fun _ _ _ _ _ => pg_name (i := 7) scMach.nd rfl (Or.inl rfl)) (fun _ _ _ _ _ => pts_nil) (fun _ _ _ _ _ => pe_callTy call_list_of (by rfl) T.list bt_list (pa_cons (pv 7) pa_nil))) (copy_imp mono_var)) rfl)))))))), ?_⟩
    have bad : machineOk m = false → ∀ (G : Hp) (σ : L2.St), Same H G → tMkO CE (spErr CE) [] (tCons (tC (.str "not a machine")) tNil) σ G (fun cls d H' => E cls d H') := by
      intro hb G σ sG
      refine ⟨by show 1 ≤ 1000; decide, fun a ha => ⟨a, .str "not a machine", rfl, upd_same, fun d hd hne => ⟨rfl, d, _, upd_same, by rw [upd_ne hne, upd_same], ?_, ?_⟩⟩⟩
      · rw [upd_ne hne] at hd
        exact hd
      · rw [upd_ne hne] at hd
        refine kB hb _ d (fun b o e => ?_) upd_same
        have e2 := sG _ _ e
        have nbd : b ≠ d := ne_of_none e2 hd
        have nba : b ≠ a := ne_of_none e2 ha
        rw [upd_ne nbd, del_ne nba, upd_ne nba, upd_ne nbd, upd_ne nba]
        exact e2
    -- good = is_alphabet(reads) and is_alphabet(writes)
    refine ⟨fun σ G => σ = [some (.ref x), some (.str m.reads), some (.str m.writes), some (.ref l), some (.ref r), some (.ref t), some (.bl (alphaOk m.reads && alphaOk m.writes)), none] ∧ Same H G, ?_, ?_⟩
    · refine ⟨_, rfl, m.reads, rfl, sm.a, fun G s1 => ⟨_, rfl, ?_⟩⟩
      cases c1 : alphaOk m.reads with
      | false => exact ⟨rfl, s1⟩
      | true => exact ⟨_, rfl, m.writes, rfl, sm.b, fun G2 s2 => ⟨rfl, s1.trans s2⟩⟩
    rintro σ G ⟨rfl, s1⟩
    -- good = good and _are_rows(left, len(reads)) and _are_rows(right, len(reads))
    refine ⟨fun σ G => σ = [some (.ref x), some (.str m.reads), some (.str m.writes), some (.ref l), some (.ref r), some (.ref t), some (.bl ((alphaOk m.reads && alphaOk m.writes) && (rowsOk m.left m.reads.length && rowsOk m.right m.reads.length))), none] ∧ Same H G, ?_, ?_⟩
    · refine ⟨_, rfl, _, rfl, ?_⟩
      cases c1 : (alphaOk m.reads && alphaOk m.writes) with
      | false => exact ⟨rfl, s1⟩
      | true =>
        refine ⟨_, rfl, _, rfl, m.reads, rfl, sz_le sm.a, l, ls, m.left, m.reads.length, rfl, nl.same s1, by rw [kl]; exact sm.l, _, rfl, ?_⟩
        cases c2 : rowsOk m.left m.reads.length with
        | false => exact ⟨rfl, s1⟩
        | true => exact ⟨_, rfl, _, rfl, m.reads, rfl, sz_le sm.a, r, rs, m.right, m.reads.length, rfl, nr.same s1, by rw [kr]; exact sm.r, rfl, s1⟩
    rintro σ G ⟨rfl, s1⟩
    have em : machineOk m = (((alphaOk m.reads && alphaOk m.writes) && (rowsOk m.left m.reads.length && rowsOk m.right m.reads.length)) && tableOk m.table m.left.length m.right.length m.reads.length m.writes) := by
      unfold machineOk
      simp only [Bool.and_assoc]
    generalize hg : ((alphaOk m.reads && alphaOk m.writes) && (rowsOk m.left m.reads.length && rowsOk m.right m.reads.length)) = good at em ⊢
    -- the raise, or on
    refine ⟨fun σ G => σ = [some (.ref x), some (.str m.reads), some (.str m.writes), some (.ref l), some (.ref r), some (.ref t), some (.bl good), none] ∧ Same H G ∧ machineOk m = true, ?_, ?_⟩
    · refine ⟨_, rfl, _, rfl, ?_⟩
      cases good with
      | false => exact bad (by rw [em]; rfl) G [] s1
      | true =>
        have eL : ((ls.map V.ref).length : Int) = (m.left.length : Int) := by rw [List.length_map, kl]
        have eR : ((rs.map V.ref).length : Int) = (m.right.length : Int) := by rw [List.length_map, kr]
        refine iteF ⟨_, rfl, _, rfl, l, _, rfl, .inl (SqL.of (s1 _ _ nl.lst)), _, rfl, r, _, rfl, .inl (SqL.of (s1 _ _ nr.lst)), _, rfl, m.reads, rfl, sz_le sm.a, _, rfl, ?_⟩
        rw [eL, eR]
        refine ⟨t, ts, m.table, m.left.length, m.right.length, m.reads.length, m.writes, rfl, nt.same s1, by rw [kt]; exact sm.t, sm.z, fun G2 s2 => ⟨_, rfl, ?_⟩⟩
        cases c3 : tableOk m.table m.left.length m.right.length m.reads.length m.writes with
        | false => exact bad (by rw [em, c3]; rfl) G2 [] (s1.trans s2)
        | true => exact iteF ⟨rfl, s1.trans s2, by rw [em, c3]; rfl⟩
    rintro σ G ⟨rfl, s2, hok⟩
    -- the fields
    have few : ∀ (f : Str) (v : V) (fs : List (Str × V)) (n : Nat), fs.length ≤ n → (putF f v fs).length ≤ n + 1 := fun f v fs n h => Nat.le_trans (length_putF f v fs) (Nat.succ_le_succ h)
    have f1 := few "reads" (.str m.reads) [] 0 (Nat.le_refl 0)
    have f2 := few "writes" (.str m.writes) _ 1 f1
    have M0 : Mid H G C x dx [] := ⟨fun b o e _ => s2 _ _ e, s2 _ _ hx, ⟨_, hx⟩⟩
    refine ⟨_, rfl, _, rfl, x, C, dx, _, rfl, M0.ob, M.cl, M.n1, (by decide), ?_⟩
    have M1 := M0.store (fs' := putF "reads" (.str m.reads) [])
    refine ⟨_, rfl, _, rfl, x, C, dx, _, rfl, M1.ob, M.cl, M.n2, (by omega), ?_⟩
    have M2 := M1.store (fs' := putF "writes" (.str m.writes) (putF "reads" (.str m.reads) []))
    refine ⟨_, rfl, l, ls, vI m.left, rfl, nl.mid hx M2, by rw [kl]; exact sm.l, (by show 7 < 8; decide), fun D1 c1 H1 F1 N1 => ?_⟩
    have Ma := M2.same F1.same
    have f3 := few "left" (.ref D1) _ 2 f2
    refine ⟨_, rfl, x, C, dx, _, rfl, Ma.ob, M.cl, M.n3, (by omega), ?_⟩
    have M3 := Ma.store (fs' := putF "left" (.ref D1) (putF "writes" (.str m.writes) (putF "reads" (.str m.reads) [])))
    have N1a := N1.ne (o := .ins C dx (putF "left" (.ref D1) (putF "writes" (.str m.writes) (putF "reads" (.str m.reads) [])))) (c := x) fun hc => M2.off (F1.new _ hc) rfl
    refine ⟨_, rfl, r, rs, vI m.right, rfl, nr.mid hx M3, by rw [kr]; exact sm.r, (by show 7 < 8; decide), fun D2 c2 H2 F2 N2 => ?_⟩
    have Mb := M3.same F2.same
    have f4 := few "right" (.ref D2) _ 3 f3
    refine ⟨_, rfl, x, C, dx, _, rfl, Mb.ob, M.cl, M.n4, (by omega), ?_⟩
    have M4 := Mb.store (fs' := putF "right" (.ref D2) (putF "left" (.ref D1) (putF "writes" (.str m.writes) (putF "reads" (.str m.reads) []))))
    have N1b := (N1a.same F2.same).ne (o := .ins C dx (putF "right" (.ref D2) (putF "left" (.ref D1) (putF "writes" (.str m.writes) (putF "reads" (.str m.reads) []))))) (c := x) fun hc => M2.off (F1.new _ hc) rfl
    have N2b := N2.ne (o := .ins C dx (putF "right" (.ref D2) (putF "left" (.ref D1) (putF "writes" (.str m.writes) (putF "reads" (.str m.reads) []))))) (c := x) fun hc => M3.off (F2.new _ hc) rfl
    refine ⟨_, rfl, t, ts, vS m.table, rfl, nt.mid hx M4, by rw [kt]; exact sm.t, (by show 7 < 8; decide), fun D3 c3 H3 F3 N3 => ?_⟩
    have Mc := M4.same F3.same
    refine ⟨_, rfl, x, C, dx, _, rfl, Mc.ob, M.cl, M.n5, (by omega), ?_⟩
    have M5 := Mc.store (fs' := mF m D1 D2 D3)
    refine kG hok _ D1 c1 D2 c2 D3 c3 M5.k ⟨⟨dx, M5.ob⟩, (N1b.same F3.same).ne fun hc => M2.off (F1.new _ hc) rfl, (N2b.same F3.same).ne fun hc => M3.off (F2.new _ hc) rfl, N3.ne fun hc => M4.off (F3.new _ hc) rfl⟩ fun c hc => ?_
    rcases hc with hc | hc | hc
    · exact M2.old (F1.new _ hc)
    · exact M3.old (F2.new _ hc)
    · exact M4.old (F3.new _ hc)
end
end Fk
/-! form -/
namespace Fk
open PySem PySem.Spec PyProof.Rows L2
theorem lk_ne {f g : Str} {v : V} {fs : List (Str × V)} (h : ¬ g = f) : (putF f v fs).lookup g = fs.lookup g := by rw [lookup_putF, if_neg h]
theorem lk_eq {f : Str} {v : V} {fs : List (Str × V)} : (putF f v fs).lookup f = some v := by rw [lookup_putF, if_pos rfl]
theorem mF_reads (m : Parts) (l r t : Addr) : (mF m l r t).lookup ("reads" : Str) = some (.str m.reads) := by
  unfold mF
  rw [lk_ne (by decide +kernel), lk_ne (by decide +kernel), lk_ne (by decide +kernel), lk_ne (by decide +kernel), lk_eq]
theorem mF_writes (m : Parts) (l r t : Addr) : (mF m l r t).lookup ("writes" : Str) = some (.str m.writes) := by
  unfold mF
  rw [lk_ne (by decide +kernel), lk_ne (by decide +kernel), lk_ne (by decide +kernel), lk_eq]
theorem mF_left (m : Parts) (l r t : Addr) : (mF m l r t).lookup ("left" : Str) = some (.ref l) := by
  unfold mF
  rw [lk_ne (by decide +kernel), lk_ne (by decide +kernel), lk_eq]
theorem mF_right (m : Parts) (l r t : Addr) : (mF m l r t).lookup ("right" : Str) = some (.ref r) := by
  unfold mF
  rw [lk_ne (by decide +kernel), lk_eq]
theorem mF_table (m : Parts) (l r t : Addr) : (mF m l r t).lookup ("table" : Str) = some (.ref t) := by
  unfold mF
  rw [lk_eq]
theorem MachAt.same {C : Addr} {H H' : Hp} {x : Addr} {m : Parts} {l r t : Addr} {ls rs ts : List Addr} (h : MachAt C H x m l ls r rs t ts) (s : Same H H') : MachAt C H' x m l ls r rs t ts := by
  obtain ⟨⟨dx, e⟩, a, b, c⟩ := h
  exact ⟨⟨dx, s _ _ e⟩, a.same s, b.same s, c.same s⟩
theorem mono_fld {K : PySem.W.Frag} {te : TE} {f : Str} (m : Mono te) : Mono (tFld K te f) := fun σ H R R' h q => m σ H _ _ (fun x G ⟨a, C, dx, fs, v, e1, e2, e3, e4, e5, q⟩ => ⟨a, C, dx, fs, v, e1, e2, e3, e4, e5, h _ _ q⟩) q
/-- a new tuple of the tuples at cs -/
theorem nestT_new {H H1 : Hp} {p : Addr} {cs : List Addr} {vss : List (List V)} (hl : cs.length = vss.length) (hr : ∀ (m : Nat) (r : Addr) (vs : List V), cs[m]? = some r → vss[m]? = some vs → H1 r = some (.tup vs)) (hp : H1 p = none) :
    NestT (upd H1 p (.tup (cs.map V.ref))) p cs vss := ⟨upd_same, hl, fun i r vs h1 h2 => by rw [upd_ne (ne_of_none (hr i r vs h1 h2) hp)]; exact hr i r vs h1 h2⟩
theorem same_new {H H1 : Hp} {p : Addr} {o : HO} (s : Same H H1) (hp : H1 p = none) : Same H (upd H1 p o) := fun b u e => by
  rw [upd_ne (ne_of_none (s _ _ e) hp)]
  exact s _ _ e
def spForm (C : Addr) : Sp := fun vs H Q _ => ∃ (x l r t : Addr) (ls rs ts : List Addr) (m : Parts), vs = [.ref x] ∧ MachAt C H x m l ls r rs t ts ∧ Small m ∧ ∀ (H' : Hp) (q : Addr), Same H H' → FormAt H' q m → Q (.ref q) H'
section
variable {P : Program} {w : World} {K : PySem.W.Frag} {mg : Str → Option Value} {base : Heap}
theorem scForm : FnScope ["machine", "left", "right", "table", "row"] ["machine"] (defScope sForm) := ⟨rfl, rfl, rfl, by decide +kernel, rfl, by decide +kernel, by decide +kernel⟩
theorem ok_form {f C : Addr} {fd : FuncData} (F : Fun K "form" "form" sForm f fd) (T : Nm mg) (M : MCls K C) : FnOk P w K mg base CX0 1 f fd ["machine"] (spForm C) := by
  refine F.ok scForm (fun vs H Q E h => ?_) (fun cdv A outer s H vs Q E hr h => ?_)
  · obtain ⟨x, l, r, t, ls, rs, ts, m, rfl, _⟩ := h
    rfl
  · obtain ⟨x, l, r, t, ls, rs, ts, m, rfl, ma, sm, k⟩ := h
    have kl : ls.length = m.left.length := by rw [ma.nl.len, vI_len]
    have kr : rs.length = m.right.length := by rw [ma.nr.len, vI_len]
    have kt : ts.length = m.table.length := by rw [ma.nt.len, vS_len]
    refine ⟨_, pss_cons (ps_set (i := 1) scForm.nd rfl (Or.inl rfl) (pe_callTy call_tuple_of (by rfl) T.tuple bt_tuple (pa_cons
        (pe_imp (pe_lc (own := [("row", 4)]) (g := gName 4) (tt := tYes) rfl scForm.nd (pi_list (pe_fld (pv 0) rfl)) (blkOk_by (own := [("row", 4)]) (N := ["machine", "left", "right", "table", "row"]) (sc := defScope sForm) (by decide +kernel))
          (fun _ _ _ _ _ => pg_name (i := 4) scForm.nd rfl (Or.inl rfl)) (fun _ _ _ _ _ => pts_nil) (fun _ _ _ _ _ => pe_callTy call_tuple_of (by rfl) T.tuple bt_tuple (pa_cons (pv 4) pa_nil))) (tups_imp (mono_fld mono_var))) pa_nil)))
      (pss_cons (ps_set (i := 2) scForm.nd rfl (Or.inl rfl) (pe_callTy call_tuple_of (by rfl) T.tuple bt_tuple (pa_cons
        (pe_imp (pe_lc (own := [("row", 4)]) (g := gName 4) (tt := tYes) rfl scForm.nd (pi_list (pe_fld (pv 0) rfl)) (blkOk_by (own := [("row", 4)]) (N := ["machine", "left", "right", "table", "row"]) (sc := defScope sForm) (by decide +kernel))
          (fun _ _ _ _ _ => pg_name (i := 4) scForm.nd rfl (Or.inl rfl)) (fun _ _ _ _ _ => pts_nil) (fun _ _ _ _ _ => pe_callTy call_tuple_of (by rfl) T.tuple bt_tuple (pa_cons (pv 4) pa_nil))) (tups_imp (mono_fld mono_var))) pa_nil)))
      (pss_cons (ps_set (i := 3) scForm.nd rfl (Or.inl rfl) (pe_callTy call_tuple_of (by rfl) T.tuple bt_tuple (pa_cons
        (pe_imp (pe_lc (own := [("row", 4)]) (g := gName 4) (tt := tYes) rfl scForm.nd (pi_list (pe_fld (pv 0) rfl)) (blkOk_by (own := [("row", 4)]) (N := ["machine", "left", "right", "table", "row"]) (sc := defScope sForm) (by decide +kernel))
          (fun _ _ _ _ _ => pg_name (i := 4) scForm.nd rfl (Or.inl rfl)) (fun _ _ _ _ _ => pts_nil) (fun _ _ _ _ _ => pe_callTy call_tuple_of (by rfl) T.tuple bt_tuple (pa_cons (pv 4) pa_nil))) (tups_imp (mono_fld mono_var))) pa_nil)))
      (pss_one (ps_ret (pe_tup (pa_cons (pe_fld (pv 0) rfl) (pa_cons (pe_fld (pv 0) rfl) (pa_cons (pv 1) (pa_cons (pv 2) (pa_cons (pv 3) pa_nil)))))))))), ?_⟩
    obtain ⟨dx, hx⟩ := ma.ob
    refine ⟨_, rfl, x, C, dx, _, _, rfl, hx, M.cl, M.n3, mF_left _ _ _ _, l, ls, vI m.left, rfl, ma.nl, by rw [kl]; exact sm.l, (by show 4 < 5; decide), fun D1 c1 H1 s1 _ h1 e1 r1 => ⟨D1, _, rfl, .inl ⟨SqL.of h1, fun p1 n1 => ?_⟩⟩⟩
    have N1 := nestT_new (H := H) e1 r1 n1
    have S1 := same_new (o := .tup (c1.map V.ref)) s1 n1
    refine ⟨_, rfl, x, C, dx, _, _, rfl, S1 _ _ hx, M.cl, M.n4, mF_right _ _ _ _, r, rs, vI m.right, rfl, ma.nr.same S1, by rw [kr]; exact sm.r, (by show 4 < 5; decide), fun D2 c2 H2 s2 _ h2 e2 r2 => ⟨D2, _, rfl, .inl ⟨SqL.of h2, fun p2 n2 => ?_⟩⟩⟩
    have N2 := nestT_new (H := H) e2 r2 n2
    have T2 := same_new (o := .tup (c2.map V.ref)) s2 n2
    have S2 := S1.trans T2
    refine ⟨_, rfl, x, C, dx, _, _, rfl, S2 _ _ hx, M.cl, M.n5, mF_table _ _ _ _, t, ts, vS m.table, rfl, ma.nt.same S2, by rw [kt]; exact sm.t, (by show 4 < 5; decide), fun D3 c3 H3 s3 _ h3 e3 r3 => ⟨D3, _, rfl, .inl ⟨SqL.of h3, fun p3 n3 => ?_⟩⟩⟩
    have N3 := nestT_new (H := H) e3 r3 n3
    have T3 := same_new (o := .tup (c3.map V.ref)) s3 n3
    have S3 := S2.trans T3
    refine ⟨_, rfl, x, C, dx, _, _, rfl, S3 _ _ hx, M.cl, M.n1, mF_reads _ _ _ _, _, rfl, x, C, dx, _, _, rfl, S3 _ _ hx, M.cl, M.n2, mF_writes _ _ _ _, _, rfl, _, rfl, _, rfl, (by show 5 ≤ sizeLine; decide), fun q hq => ?_⟩
    have Sq := same_new (o := .tup [.str m.reads, .str m.writes, .ref p1, .ref p2, .ref p3]) S3 hq
    have Tq := same_new (o := .tup [.str m.reads, .str m.writes, .ref p1, .ref p2, .ref p3]) (Same.refl _) hq
    exact k _ q Sq ⟨p1, p2, p3, c1, c2, c3, upd_same, ((N1.same T2).same T3).same Tq, (N2.same T3).same Tq, N3.same Tq⟩
end
end Fk
/-! _law_form; the parts as a list -/
namespace Fk
open PySem PySem.Spec PyProof.Rows L2
structure PartsAt (H : Hp) (p : Addr) (m : Parts) (l : Addr) (ls : List Addr) (r : Addr) (rs : List Addr) (t : Addr) (ts : List Addr) : Prop where
  ob : H p = some (.lst [.str m.reads, .str m.writes, .ref l, .ref r, .ref t])
  nl : Nest H l ls (vI m.left)
  nr : Nest H r rs (vI m.right)
  nt : Nest H t ts (vS m.table)
theorem PartsAt.same {H H' : Hp} {p : Addr} {m : Parts} {l r t : Addr} {ls rs ts : List Addr} (h : PartsAt H p m l ls r rs t ts) (s : Same H H') : PartsAt H' p m l ls r rs t ts := ⟨s _ _ h.ob, h.nl.same s, h.nr.same s, h.nt.same s⟩
theorem mono_int {v : V} : Mono (tC v) := fun _ _ _ _ h q => h _ _ q
theorem mono_ix {K : PySem.W.Frag} {ta tb : TE} (ma : Mono ta) (mb : Mono tb) : Mono (tOp (rIxL K) ta tb) := fun σ H R R' h q => ma σ H _ _ (fun x G q => mb σ G _ _ (fun y G2 ⟨p, xs, i, v, e1, e2, e3, e4, q⟩ => ⟨p, xs, i, v, e1, e2, e3, e4, h _ _ q⟩) q) q
def spLForm : Sp := fun vs H Q _ => ∃ (p l r t : Addr) (ls rs ts : List Addr) (m : Parts), vs = [.ref p] ∧ PartsAt H p m l ls r rs t ts ∧ Small m ∧ ∀ (H' : Hp) (q : Addr), Same H H' → FormAt H' q m → Q (.ref q) H'
section
variable {P : Program} {w : World} {K : PySem.W.Frag} {mg : Str → Option Value} {base : Heap}
theorem scLForm : FnScope ["_law_m", "_law_left", "_law_right", "_law_row_here"] ["_law_m"] (defScope sLForm) := ⟨rfl, rfl, rfl, by decide +kernel, rfl, by decide +kernel, by decide +kernel⟩
theorem ok_lform {f : Addr} {fd : FuncData} (F : Fun K "_law_form" "_law_form" sLForm f fd) (T : Nm mg) : FnOk P w K mg base CX0 1 f fd ["_law_m"] spLForm := by
  refine F.ok scLForm (fun vs H Q E h => ?_) (fun cdv A outer s H vs Q E hr h => ?_)
  · obtain ⟨p, l, r, t, ls, rs, ts, m, rfl, _⟩ := h
    rfl
  · obtain ⟨p, l, r, t, ls, rs, ts, m, rfl, ma, sm, k⟩ := h
    have kl : ls.length = m.left.length := by rw [ma.nl.len, vI_len]
    have kr : rs.length = m.right.length := by rw [ma.nr.len, vI_len]
    have kt : ts.length = m.table.length := by rw [ma.nt.len, vS_len]
    refine ⟨_, pss_cons (ps_set (i := 1) scLForm.nd rfl (Or.inl rfl) (pe_callTy call_tuple_of (by rfl) T.tuple bt_tuple (pa_cons
        (pe_imp (pe_lc (own := [("_law_row_here", 3)]) (g := gName 3) (tt := tYes) rfl scLForm.nd (pi_list (pe_ix ix_list (pv 0) pe_int (fun _ _ => rfl))) (blkOk_by (own := [("_law_row_here", 3)]) (N := ["_law_m", "_law_left", "_law_right", "_law_row_here"]) (sc := defScope sLForm) (by decide +kernel))
          (fun _ _ _ _ _ => pg_name (i := 3) scLForm.nd rfl (Or.inl rfl)) (fun _ _ _ _ _ => pts_nil) (fun _ _ _ _ _ => pe_callTy call_tuple_of (by rfl) T.tuple bt_tuple (pa_cons (pv 3) pa_nil))) (tups_imp (mono_ix mono_var mono_int))) pa_nil)))
      (pss_cons (ps_set (i := 2) scLForm.nd rfl (Or.inl rfl) (pe_callTy call_tuple_of (by rfl) T.tuple bt_tuple (pa_cons
        (pe_imp (pe_lc (own := [("_law_row_here", 3)]) (g := gName 3) (tt := tYes) rfl scLForm.nd (pi_list (pe_ix ix_list (pv 0) pe_int (fun _ _ => rfl))) (blkOk_by (own := [("_law_row_here", 3)]) (N := ["_law_m", "_law_left", "_law_right", "_law_row_here"]) (sc := defScope sLForm) (by decide +kernel))
          (fun _ _ _ _ _ => pg_name (i := 3) scLForm.nd rfl (Or.inl rfl)) (fun _ _ _ _ _ => pts_nil) (fun _ _ _ _ _ => pe_callTy call_tuple_of (by rfl) T.tuple bt_tuple (pa_cons (pv 3) pa_nil))) (tups_imp (mono_ix mono_var mono_int))) pa_nil)))
      (pss_one (ps_ret (pe_tup (pa_cons (pe_ix ix_list (pv 0) pe_int (fun _ _ => rfl)) (pa_cons (pe_ix ix_list (pv 0) pe_int (fun _ _ => rfl)) (pa_cons (pv 1) (pa_cons (pv 2) (pa_cons (pe_callTy call_tuple_of (by rfl) T.tuple bt_tuple (pa_cons
        (pe_imp (pe_lc (own := [("_law_row_here", 3)]) (g := gName 3) (tt := tYes) rfl scLForm.nd (pi_list (pe_ix ix_list (pv 0) pe_int (fun _ _ => rfl))) (blkOk_by (own := [("_law_row_here", 3)]) (N := ["_law_m", "_law_left", "_law_right", "_law_row_here"]) (sc := defScope sLForm) (by decide +kernel))
          (fun _ _ _ _ _ => pg_name (i := 3) scLForm.nd rfl (Or.inl rfl)) (fun _ _ _ _ _ => pts_nil) (fun _ _ _ _ _ => pe_callTy call_tuple_of (by rfl) T.tuple bt_tuple (pa_cons (pv 3) pa_nil))) (tups_imp (mono_ix mono_var mono_int))) pa_nil)) pa_nil))))))))), ?_⟩
    refine ⟨_, rfl, p, _, 2, _, rfl, rfl, SqL.of ma.ob, rfl, l, ls, vI m.left, rfl, ma.nl, by rw [kl]; exact sm.l, (by show 3 < 4; decide), fun D1 c1 H1 s1 _ h1 e1 r1 => ⟨D1, _, rfl, .inl ⟨SqL.of h1, fun p1 n1 => ?_⟩⟩⟩
    have N1 := nestT_new (H := H) e1 r1 n1
    have S1 := same_new (o := .tup (c1.map V.ref)) s1 n1
    refine ⟨_, rfl, p, _, 3, _, rfl, rfl, SqL.of (S1 _ _ ma.ob), rfl, r, rs, vI m.right, rfl, ma.nr.same S1, by rw [kr]; exact sm.r, (by show 3 < 4; decide), fun D2 c2 H2 s2 _ h2 e2 r2 => ⟨D2, _, rfl, .inl ⟨SqL.of h2, fun p2 n2 => ?_⟩⟩⟩
    have N2 := nestT_new (H := H) e2 r2 n2
    have T2 := same_new (o := .tup (c2.map V.ref)) s2 n2
    have S2 := S1.trans T2
    refine ⟨_, rfl, p, _, 0, _, rfl, rfl, SqL.of (S2 _ _ ma.ob), rfl, _, rfl, p, _, 1, _, rfl, rfl, SqL.of (S2 _ _ ma.ob), rfl, _, rfl, _, rfl, _, rfl, p, _, 4, _, rfl, rfl, SqL.of (S2 _ _ ma.ob), rfl, t, ts, vS m.table, rfl, ma.nt.same S2, by rw [kt]; exact sm.t, (by show 3 < 4; decide), fun D3 c3 H3 s3 _ h3 e3 r3 => ⟨D3, _, rfl, .inl ⟨SqL.of h3, fun p3 n3 => ?_⟩⟩⟩
    have N3 := nestT_new (H := H) e3 r3 n3
    have T3 := same_new (o := .tup (c3.map V.ref)) s3 n3
    have S3 := S2.trans T3
    refine ⟨(by show 5 ≤ sizeLine; decide), fun q hq => ?_⟩
    have Sq := same_new (o := .tup [.str m.reads, .str m.writes, .ref p1, .ref p2, .ref p3]) S3 hq
    have Tq := same_new (o := .tup [.str m.reads, .str m.writes, .ref p1, .ref p2, .ref p3]) (Same.refl _) hq
    exact k _ q Sq ⟨p1, p2, p3, c1, c2, c3, upd_same, ((N1.same T2).same T3).same Tq, (N2.same T3).same Tq, N3.same Tq⟩
end
end Fk
/-! the box of draws: _law_draw, _law_alphabet -/
namespace Fk
open PySem PySem.Spec PyProof.Rows L2
/-- at b a box: a list of ints and a place in it -/
def Box (H : Hp) (b : Addr) : Prop := ∃ (c : Addr) (n : Int) (ns : List Int), H b = some (.lst [.ref c, .int n]) ∧ H c = some (.lst (ns.map V.int)) ∧ 0 ≤ n
theorem box_ne {H : Hp} {b c : Addr} {n : Int} {ns : List Int} (hb : H b = some (.lst [.ref c, .int n])) (hc : H c = some (.lst (ns.map V.int))) : c ≠ b := fun e => by
  rw [e, hb] at hc
  have z := HO.lst.inj (Option.some.inj hc)
  match ns, z with
  | [], z => cases z
  | i :: r, z => cases (List.cons.inj z).1
/-- all but the box stands; the box has its list, its place may have moved -/
structure Step (b : Addr) (H H' : Hp) : Prop where
  k : ∀ c o, c ≠ b → H c = some o → H' c = some o
  bx : ∀ (c : Addr) (n : Int), H b = some (.lst [.ref c, .int n]) → 0 ≤ n → ∃ n' : Int, 0 ≤ n' ∧ H' b = some (.lst [.ref c, .int n'])
theorem Box.at_ {H : Hp} {b : Addr} (h : Box H b) : ∃ o, H b = some o := by
  obtain ⟨c, n, ns, e, _⟩ := h
  exact ⟨_, e⟩
theorem Box.ne {H : Hp} {b c : Addr} (h : Box H b) (hc : H c = none) : c ≠ b := fun e => by
  obtain ⟨o, z⟩ := h.at_
  rw [← e, hc] at z
  cases z
theorem Box.same {H H' : Hp} {b : Addr} (h : Box H b) (s : Same H H') : Box H' b := by
  obtain ⟨c, n, ns, e1, e2, h0⟩ := h
  exact ⟨c, n, ns, s _ _ e1, s _ _ e2, h0⟩
theorem Step.box {b : Addr} {H H' : Hp} (s : Step b H H') (h : Box H b) : Box H' b := by
  obtain ⟨c, n, ns, e1, e2, h0⟩ := h
  obtain ⟨n', h0', e⟩ := s.bx c n e1 h0
  exact ⟨c, n', ns, e, s.k _ _ (box_ne e1 e2) e2, h0'⟩
theorem Step.of_same {b : Addr} {H H' : Hp} (s : Same H H') : Step b H H' := ⟨fun c o _ e => s c o e, fun c n e h => ⟨n, h, s _ _ e⟩⟩
theorem Step.refl {b : Addr} {H : Hp} : Step b H H := .of_same (Same.refl H)
theorem Step.trans {b : Addr} {H H1 H2 : Hp} (s1 : Step b H H1) (s2 : Step b H1 H2) : Step b H H2 := ⟨fun c o h e => s2.k c o h (s1.k c o h e), fun c n e h => by
  obtain ⟨n1, h1, e1⟩ := s1.bx c n e h
  exact s2.bx c n1 e1 h1⟩
theorem Step.free {b c : Addr} {H H' : Hp} (s : Step b H H') (h0 : Box H b) (h : H' c = none) : H c = none := by
  cases e : H c with
  | none => rfl
  | some o =>
    by_cases hc : c = b
    · exact absurd hc ((s.box h0).ne h)
    · rw [s.k c o hc e] at h
      cases h
/-- a thing that is new is written -/
theorem Step.new {b D : Addr} {H G : Hp} {o : HO} (s : Step b H G) (hb : Box H b) (hD : H D = none) : Step b H (upd G D o) := ⟨fun c u hc e => by rw [upd_ne (ne_of_none e hD)]; exact s.k c u hc e, fun c n e h => by
  obtain ⟨n', h', e'⟩ := s.bx c n e h
  exact ⟨n', h', by rw [upd_ne (Ne.symm (hb.ne hD))]; exact e'⟩⟩
theorem Nest.step {b p : Addr} {H H' : Hp} {rs : List Addr} {vss : List (List V)} (n : Nest H p rs vss) (s : Step b H H') (h : b ∉ p :: rs) : Nest H' p rs vss := n.keep fun c hc o e => s.k c o (fun z => h (by rw [← z]; exact hc)) e
def spDraw : Sp := fun vs H Q _ => ∃ (b : Addr) (many : Int), vs = [.ref b, .int many] ∧ 0 < many ∧ Box H b ∧ ∀ (d : Int) (H' : Hp), 0 ≤ d → d < many → Step b H H' → Q (.int d) H'
section
variable {P : Program} {w : World} {K : PySem.W.Frag} {mg : Str → Option Value} {base : Heap}
theorem scDraw : FnScope ["_law_box", "_law_many", "_law_at"] ["_law_box", "_law_many"] (defScope sDraw) := ⟨rfl, rfl, rfl, by decide +kernel, rfl, by decide +kernel, by decide +kernel⟩
theorem ok_draw {f : Addr} {fd : FuncData} (F : Fun K "_law_draw" "_law_draw" sDraw f fd) (T : Nm mg) : FnOk P w K mg base CX0 1 f fd ["_law_box", "_law_many"] spDraw := by
  refine F.ok scDraw (fun vs H Q E h => ?_) (fun cdv A outer s H vs Q E hr h => ?_)
  · obtain ⟨b, many, rfl, _⟩ := h
    rfl
  · obtain ⟨b, many, rfl, hm, ⟨c, n, ns, hb, hc, h0⟩, k⟩ := h
    refine ⟨_, pss_cons (ps_set (i := 2) scDraw.nd rfl (Or.inl rfl) (pe_ix ix_list (pv 0) pe_int (fun _ _ => rfl)))
      (pss_cons (ps_asg (pe_op op_add (pv 2) pe_int) (pg_sub (pv 0) pe_int set_list))
      (pss_cons (ps_if (pt_cmpR op_lt (pv 2) (pe_callB call_len_seq (by rfl) T.len bt_len (pa_cons (pe_ix ix_list (pv 0) pe_int (fun _ _ => rfl)) pa_nil)) (nomark _))
        (pss_one (ps_ret (pe_op op_mod (pe_callTy call_int1 (by rfl) T.int bt_int (pa_cons (pe_ix ix_list (pe_ix ix_list (pv 0) pe_int (fun _ _ => rfl)) (pv 2) (fun _ _ => rfl)) pa_nil)) (pv 1)))) pss_nil)
      (pss_one (ps_ret (pe_op op_mod (pe_callTy call_int1 (by rfl) T.int bt_int (pa_cons (pe_op op_add (pe_op op_mul (pv 2) pe_int) pe_int) pa_nil)) (pv 1)))))), ?_⟩
    have ncb : c ≠ b := box_ne hb hc
    refine ⟨_, rfl, b, _, 1, _, rfl, rfl, SqL.of hb, rfl, ?_⟩
    refine ⟨_, rfl, _, _, rfl, rfl, _, rfl, b, _, 1, 1, rfl, rfl, hb, rfl, ?_⟩
    have hb' : upd H b (.lst ([.ref c, .int n].set 1 (.int (n + 1)))) b = some (.lst [.ref c, .int (n + 1)]) := upd_same
    have hc' : ∀ o, (upd H b o) c = some (.lst (ns.map V.int)) := fun o => by rw [upd_ne ncb]; exact hc
    have st : Step b H (upd H b (.lst ([.ref c, .int n].set 1 (.int (n + 1))))) := ⟨fun e o he h => by rw [upd_ne he]; exact h, fun c' n' e h => ⟨n + 1, by omega, by rw [hb] at e; cases e; exact hb'⟩⟩
    refine ⟨_, rfl, _, rfl, b, _, 0, _, rfl, rfl, SqL.of hb', rfl, c, _, rfl, .inl (SqL.of (hc' _)), _, _, rfl, rfl, _, rfl, ?_⟩
    refine ite2 (fun c1 => ?_) (fun c1 => ?_)
    · have c1' := of_decide_eq_true c1
      rw [List.length_map] at c1'
      obtain ⟨j, rfl⟩ : ∃ j : Nat, n = (j : Int) := ⟨n.toNat, by omega⟩
      have hj : j < ns.length := by omega
      refine ⟨_, rfl, b, _, 0, _, rfl, rfl, SqL.of hb', rfl, _, rfl, c, _, (j : Int), .int ns[j], rfl, rfl, SqL.of (hc' _), atI_nat (by rw [List.getElem?_map, List.getElem?_eq_getElem hj]; rfl), .inl ⟨_, rfl, _, rfl, _, _, rfl, rfl, hm, ?_⟩⟩
      exact k _ _ (Int.emod_nonneg _ (by omega)) (Int.emod_lt_of_pos _ hm) st
    · refine ⟨_, rfl, _, _, rfl, rfl, .inr ⟨by decide, by decide⟩, _, _, rfl, rfl, .inl ⟨_, rfl, _, rfl, _, _, rfl, rfl, hm, ?_⟩⟩
      exact k _ _ (Int.emod_nonneg _ (by omega)) (Int.emod_lt_of_pos _ hm) st
end
end Fk
/-! _law_cell, _law_row, _law_alphabet -/
namespace Fk
open PySem PySem.Spec PyProof.Rows L2
def spCell (K : PySem.W.Frag) : Sp := fun vs H Q _ => ∃ (a : Addr) (ns : List Int) (k : Int), vs = [.ref a, .int k] ∧ SqL K H a (ns.map V.int) ∧ 0 ≤ k ∧ ∀ z : Int, Q (.int z) H
def spRow (K : PySem.W.Frag) : Sp := fun vs H Q _ => ∃ (a : Addr) (ns : List Int), vs = [.ref a, .int 0, .int 20] ∧ SqL K H a (ns.map V.int) ∧ ∀ (H' : Hp) (p : Addr) (zs : List Int), Same H H' → H p = none → H' p = some (.lst (zs.map V.int)) → Q (.ref p) H'
def spLet : Sp := fun vs H Q _ => ∃ (b : Addr) (k : Nat), vs = [.ref b, .int ((k + 1 : Nat) : Int)] ∧ k < 4 ∧ Box H b ∧ ∀ (z : Str) (H' : Hp), Alpha z → Step b H H' → Q (.str z) H'
theorem small_2k {n : Nat} (h : n ≤ 2000) : n < sizeLine := Nat.lt_of_le_of_lt h (by decide)
section
variable {P : Program} {w : World} {K : PySem.W.Frag} {mg : Str → Option Value} {base : Heap}
theorem scCell : FnScope ["_law_script", "_law_k"] ["_law_script", "_law_k"] (defScope sCell) := ⟨rfl, rfl, rfl, by decide +kernel, rfl, by decide +kernel, by decide +kernel⟩
theorem ok_cell {f : Addr} {fd : FuncData} (F : Fun K "_law_cell" "_law_cell" sCell f fd) (T : Nm mg) : FnOk P w K mg base CX0 1 f fd ["_law_script", "_law_k"] (spCell K) := by
  refine F.ok scCell (fun vs H Q E h => ?_) (fun cdv A outer s H vs Q E hr h => ?_)
  · obtain ⟨a, ns, k, rfl, _⟩ := h
    rfl
  · obtain ⟨a, ns, k, rfl, hs, h0, q⟩ := h
    refine ⟨_, pss_cons (ps_if (pt_cmpR op_lt (pv 1) (pe_callB call_len_seq (by rfl) T.len bt_len (pa_cons (pv 0) pa_nil)) (nomark _)) (pss_one (ps_ret (pe_ix ix_list (pv 0) (pv 1) (fun _ _ => rfl)))) pss_nil)
      (pss_one (ps_ret pe_int)), ?_⟩
    refine ⟨_, rfl, _, rfl, a, _, rfl, .inl hs, _, _, rfl, rfl, _, rfl, ?_⟩
    refine ite2 (fun c1 => ?_) (fun _ => q 0)
    have c1' := of_decide_eq_true c1
    rw [List.length_map] at c1'
    obtain ⟨j, rfl⟩ : ∃ j : Nat, k = (j : Int) := ⟨k.toNat, by omega⟩
    have hj : j < ns.length := by omega
    exact ⟨_, rfl, _, rfl, a, _, (j : Int), .int ns[j], rfl, rfl, hs, atI_nat (by rw [List.getElem?_map, List.getElem?_eq_getElem hj]; rfl), q _⟩
/-- the row so far -/
structure RowAt (H G : Hp) (p : Addr) (n : Nat) : Prop where
  s : Same H G
  nw : H p = none
  at_ : ∃ zs : List Int, G p = some (.lst (zs.map V.int)) ∧ zs.length ≤ n
theorem RowAt.push {H G : Hp} {p : Addr} {n : Nat} {zs : List Int} (h : RowAt H G p n) (hz : zs.length ≤ n) (z : Int) : RowAt H (upd G p (.lst (zs.map V.int ++ [.int z]))) p (n + 1) :=
  ⟨fun b o e => by rw [upd_ne (ne_of_none e h.nw)]; exact h.s _ _ e, h.nw, zs ++ [z], by rw [upd_same, List.map_append]; rfl, by rw [List.length_append]; simp; exact hz⟩
theorem RowAt.mono {H G : Hp} {p : Addr} {n m : Nat} (h : RowAt H G p n) (hm : n ≤ m) : RowAt H G p m := by
  obtain ⟨zs, e, l⟩ := h.at_
  exact ⟨h.s, h.nw, zs, e, Nat.le_trans l hm⟩
theorem scRow : FnScope ["_law_script", "_law_first", "_law_last", "_law_row_here", "_law_k", "_law_cell_here", "_law_turn"] ["_law_script", "_law_first", "_law_last"] (defScope sRow) := ⟨rfl, rfl, rfl, by decide +kernel, rfl, by decide +kernel, by decide +kernel⟩
theorem ok_row {f : Addr} {fd : FuncData} (F : Fun K "_law_row" "_law_row" sRow f fd) (T : Nm mg) (cC : Cal P w K mg base "_law_cell" CX0 1 ["_law_script", "_law_k"] (spCell K)) : FnOk P w K mg base CX0 2 f fd ["_law_script", "_law_first", "_law_last"] (spRow K) := by
  obtain ⟨fC, fdC, DC, GC, bC⟩ := cC.ex
  refine F.ok scRow (fun vs H Q E h => ?_) (fun cdv A outer s H vs Q E hr h => ?_)
  · obtain ⟨a, ns, rfl, _⟩ := h
    rfl
  · obtain ⟨a, ns, rfl, hs, q⟩ := h
    refine ⟨_, pss_cons (ps_set (i := 3) scRow.nd rfl (Or.inl rfl) (pe_lst pa_nil))
      (pss_cons (ps_for PassesOwn.never rfl (pi_range2 (by rfl) T.range (pa_cons (pv 1) (pa_cons (pv 2) pa_nil))) (pg_name (i := 4) scRow.nd rfl (Or.inl rfl))
        (pss_cons (ps_set (i := 5) scRow.nd rfl (Or.inl rfl) (pe_call GC hr (by rfl) DC.m DC.k bC .nil pass0 (pa_cons (pv 0) (pa_cons (pv 4) pa_nil))))
        (pss_cons (ps_set (i := 5) scRow.nd rfl (Or.inl rfl) (pe_op op_add (pe_callB call_abs (by rfl) T.abs bt_abs (pa_cons (pe_op op_mul pe_int (pv 5)) pa_nil)) (pe_callTy call_int1 (by rfl) T.int bt_int (pa_cons (pe_cmpR op_lt (pv 5) pe_int (nomark _)) pa_nil))))
        (pss_one (ps_if (pt_cmpR op_gt (pv 5) (pe_op op_pow pe_int pe_int) (nomark _))
          (pss_one (ps_for PassesOwn.never rfl (pi_range1 (by rfl) T.range (pa_cons pe_int pa_nil)) (pg_name (i := 6) scRow.nd rfl (Or.inl rfl))
            (pss_one (ps_if (pt_cmpR op_gt (pv 5) pe_int (nomark _))
              (pss_cons (ps_expr (pe_bm PySem.F.plainAttrs_list PySem.F.slot_list_append PySem.F.type_list_append mt_append (pv 3) (pa_cons (pe_op op_mod (pe_callTy call_int1 (by rfl) T.int bt_int (pa_cons (pv 5) pa_nil)) pe_int) pa_nil)))
              (pss_one (ps_set (i := 5) scRow.nd rfl (Or.inl rfl) (pe_op op_fdiv (pv 5) pe_int)))) pss_nil))))
          (pss_one (ps_for PassesOwn.never rfl (pi_range1 (by rfl) T.range (pa_cons pe_int pa_nil)) (pg_name (i := 6) scRow.nd rfl (Or.inl rfl))
            (pss_cons (ps_set (i := 5) scRow.nd rfl (Or.inl rfl) (pe_op op_mod (pe_callTy call_int1 (by rfl) T.int bt_int (pa_cons (pe_op op_add (pe_op op_add (pe_op op_mul (pv 5) pe_int) (pe_op op_mul pe_int (pe_op op_add (pv 4) (pv 6)))) pe_int) pa_nil)) pe_int))
            (pss_one (ps_expr (pe_bm PySem.F.plainAttrs_list PySem.F.slot_list_append PySem.F.type_list_append mt_append (pv 3) (pa_cons (pe_op op_mod (pe_callTy call_int1 (by rfl) T.int bt_int (pa_cons (pe_op op_fdiv (pv 5) pe_int) pa_nil)) pe_int) pa_nil))))))))))))
      (pss_one (ps_ret (pv 3)))), ?_⟩
    -- row = []
    refine ⟨(by decide), fun p hp => ?_⟩
    have R0 : RowAt H (upd H p (.lst [])) p 0 := ⟨fun b o e => by rw [upd_ne (ne_of_none e hp)]; exact e, hp, [], upd_same, Nat.le_refl _⟩
    refine ⟨_, rfl, _, rfl, 0, 20, rfl, (by decide), for_range (lo := 0) (n := ((20 : Int) - 0).toNat) (fun i σ G => ∃ v4 v5 v6 : Option V, σ = [some (.ref a), some (.int 0), some (.int 20), some (.ref p), v4, v5, v6] ∧ RowAt H G p (60 * i))
      ⟨none, none, none, rfl, R0⟩ ?_ ?_⟩
    · rintro i σ G hi ⟨v4, v5, v6, rfl, R⟩
      have hi20 : i < 20 := by simpa using hi
      -- cell = _law_cell(script, k)
      refine ⟨_, rfl, _, rfl, a, ns, _, rfl, R.s.seq hs, by omega, fun z => ?_⟩
      refine ⟨_, rfl, _, _, rfl, rfl, .inl ⟨by decide, by decide⟩, _, rfl, _, rfl, _, _, rfl, rfl, .inr ⟨_, rfl, _, _, rfl, rfl, ?_⟩⟩
      refine ⟨_, rfl, _, _, rfl, rfl, ⟨by decide, by decide, by decide⟩, _, _, rfl, rfl, _, rfl, ?_⟩
      refine ite2 (fun c1 => ?_) (fun c1 => ?_)
      · -- for turn in range(60)
        refine ⟨60, rfl, by decide, by decide, for_range (lo := 0) (n := (60 : Int).toNat) (fun j σ G => ∃ (x : Int) (v6 : Option V), σ = [some (.ref a), some (.int 0), some (.int 20), some (.ref p), some (.int (0 + (i : Int))), some (.int x), v6] ∧ RowAt H G p (60 * i + j))
          ⟨_, _, rfl, R⟩ ?_ ?_⟩
        · rintro j σ G hj ⟨x, v6, rfl, R⟩
          have hj60 : j < 60 := by simpa using hj
          refine ⟨_, rfl, _, _, rfl, rfl, _, rfl, ?_⟩
          refine ite2 (fun c2 => ?_) (fun c2 => ?_)
          · obtain ⟨zs, e, hl⟩ := R.at_
            refine ⟨_, rfl, .inl ⟨rfl, _, SqL.of e⟩, _, rfl, .inl ⟨_, rfl, _, _, rfl, rfl, (by show (0 : Int) < 840; decide), p, _, _, rfl, rfl, e, small_2k (by rw [List.length_map]; omega), ?_⟩⟩
            refine ⟨_, rfl, _, _, rfl, rfl, ⟨by decide, by decide⟩, ?_⟩
            exact ⟨_, _, rfl, R.push hl _⟩
          · exact ⟨_, _, rfl, R.mono (by omega)⟩
        · rintro σ G ⟨x, v6, rfl, R⟩
          exact ⟨_, _, _, rfl, R.mono (by show 60 * i + 60 ≤ 60 * (i + 1); omega)⟩
      · -- for turn in range(10)
        refine ⟨10, rfl, by decide, by decide, for_range (lo := 0) (n := (10 : Int).toNat) (fun j σ G => ∃ (x : Int) (v6 : Option V), σ = [some (.ref a), some (.int 0), some (.int 20), some (.ref p), some (.int (0 + (i : Int))), some (.int x), v6] ∧ RowAt H G p (60 * i + j))
          ⟨_, _, rfl, R⟩ ?_ ?_⟩
        · rintro j σ G hj ⟨x, v6, rfl, R⟩
          have hj10 : j < 10 := by simpa using hj
          obtain ⟨zs, e, hl⟩ := R.at_
          refine ⟨_, rfl, _, _, rfl, rfl, .inr ⟨by decide, by decide⟩, _, rfl, _, rfl, _, _, rfl, rfl, _, _, rfl, rfl, .inl ⟨by decide, by decide⟩, _, _, rfl, rfl, _, _, rfl, rfl, .inl ⟨_, rfl, _, _, rfl, rfl, (by show (0 : Int) < 4294967291; decide), ?_⟩⟩
          refine ⟨_, rfl, .inl ⟨rfl, _, SqL.of e⟩, _, rfl, _, _, rfl, rfl, ⟨by decide, by decide⟩, .inl ⟨_, rfl, _, _, rfl, rfl, (by show (0 : Int) < 840; decide), p, _, _, rfl, rfl, e, small_2k (by rw [List.length_map]; omega), ?_⟩⟩
          exact ⟨_, _, rfl, R.push hl _⟩
        · rintro σ G ⟨x, v6, rfl, R⟩
          exact ⟨_, _, _, rfl, R.mono (by show 60 * i + 10 ≤ 60 * (i + 1); omega)⟩
    · rintro σ G ⟨v4, v5, v6, rfl, R⟩
      obtain ⟨zs, e, hl⟩ := R.at_
      exact ⟨_, rfl, q G p zs R.s hp e⟩
theorem scLet : FnScope ["_law_box", "_law_many", "_law_letters", "_law_at"] ["_law_box", "_law_many"] (defScope sLet) := ⟨rfl, rfl, rfl, by decide +kernel, rfl, by decide +kernel, by decide +kernel⟩
theorem ok_let {f : Addr} {fd : FuncData} (F : Fun K "_law_alphabet" "_law_alphabet" sLet f fd) (cD : Cal P w K mg base "_law_draw" CX0 1 ["_law_box", "_law_many"] spDraw) : FnOk P w K mg base CX0 2 f fd ["_law_box", "_law_many"] spLet := by
  obtain ⟨fD, fdD, DD, GD, bD⟩ := cD.ex
  refine F.ok scLet (fun vs H Q E h => ?_) (fun cdv A outer s H vs Q E hr h => ?_)
  · obtain ⟨b, k, rfl, _⟩ := h
    rfl
  · obtain ⟨b, k, rfl, hk, hb, q⟩ := h
    refine ⟨_, pss_cons (ps_set (i := 2) scLet.nd rfl (Or.inl rfl) pe_str)
      (pss_cons (ps_set (i := 3) scLet.nd rfl (Or.inl rfl) (pe_call GD hr (by rfl) DD.m DD.k bD .nil pass0 (pa_cons (pv 0) (pa_cons pe_int pa_nil))))
      (pss_one (ps_ret (pe_slice sl_str (pv 2) (po_some (pv 3)) (po_some (pe_op op_add (pv 3) (pv 1))))))), ?_⟩
    refine ⟨_, rfl, b, 5, rfl, by decide, hb, fun d G d0 d5 st => ?_⟩
    obtain ⟨j, rfl⟩ : ∃ j : Nat, d = (j : Int) := ⟨d.toNat, by omega⟩
    refine ⟨_, rfl, _, rfl, _, rfl, _, rfl, _, rfl, _, _, rfl, rfl, _, rfl, lawLet, rfl, (by decide), ?_⟩
    exact q (alphaZ j k) G ⟨j, k, by omega, hk, rfl⟩ st
end
end Fk
/-! comprehensions whose elements draw; _law_states -/
namespace Fk
open PySem PySem.Spec PyProof.Rows L2
/-- a list of values that the elements give, each with the word Pd -/
theorem vals_it {J : It} {n : Nat} {GW : Hp → Prop} {Y : Nat → Hp → V → Hp → Prop} (wk : Walk J n GW Y) {b : Addr} {σ : L2.St} {H : Hp} {i0 : Nat} {te : TE} {Q : VK} (Pd : V → Prop) (hn : n ≤ 1000) (hb : Box H b) (hW : ∀ G, Step b H G → GW G)
    (ht : ∀ (i : Nat) (x : V) (G G1 : Hp), i < n → Step b H G → Y i G x G1 → G1 = G ∧ ∀ R : VK, (∀ v G', Pd v → Step b G G' → R v G') → te ((wipe σ [i0]).set i0 (some x)) G R)
    (hk : ∀ (D : Addr) (vs : List V) (H' : Hp), Step b H H' → H D = none → H' D = some (.lst vs) → vs.length = n → (∀ v, v ∈ vs → Pd v) → Q (.ref D) H') :
    tLc (fun _ _ R => R J H) (gName i0) tYes te [i0] σ H Q := by
  intro D hD
  have hDb : D ≠ b := hb.ne hD
  refine lc_it wk (fun j G => ∃ vs : List V, vs.length = j ∧ Step b H G ∧ G D = some (.lst vs) ∧ ∀ v, v ∈ vs → Pd v) ?_ ?_ ?_ ?_
  · exact ⟨[], rfl, Step.refl.new hb hD, upd_same, fun v hv => by cases hv⟩
  · rintro j G _ ⟨_, _, s, _, _⟩
    exact hW G s
  · rintro j x G G1 hj ⟨vs, hl, s, hG, hv⟩ y
    obtain ⟨rfl, ht'⟩ := ht j x G G1 hj s y
    refine ⟨wipe_one, ht' _ fun v G' hp s' => ?_⟩
    refine ⟨vs, s'.k _ _ hDb hG, small_lt (by omega), vs ++ [v], by rw [List.length_append, hl]; rfl, (s.trans s').new hb hD, upd_same, fun u hu => ?_⟩
    · rcases List.mem_append.mp hu with hu | hu
      · exact hv u hu
      · rw [List.mem_singleton.mp hu]
        exact hp
  · rintro G ⟨vs, hl, s, hG, hv⟩
    exact hk D vs G s hD hG hl hv
/-- a list of new lists that the elements give, each with the word Pr -/
theorem nest_it {J : It} {n : Nat} {GW : Hp → Prop} {Y : Nat → Hp → V → Hp → Prop} (wk : Walk J n GW Y) {b : Addr} {σ : L2.St} {H : Hp} {i0 : Nat} {te : TE} {Q : VK} (Pr : List V → Prop) (hn : n ≤ 1000) (hb : Box H b) (hW : ∀ G, Step b H G → GW G)
    (ht : ∀ (i : Nat) (x : V) (G G1 : Hp), i < n → Step b H G → Y i G x G1 → G1 = G ∧ ∀ R : VK, (∀ (D : Addr) (vs : List V) (G' : Hp), Pr vs → Step b G G' → G D = none → G' D = some (.lst vs) → R (.ref D) G') → te ((wipe σ [i0]).set i0 (some x)) G R)
    (hk : ∀ (D : Addr) (rs : List Addr) (vss : List (List V)) (H' : Hp), Step b H H' → Nest H' D rs vss → vss.length = n → (∀ vs, vs ∈ vss → Pr vs) → (∀ c, c ∈ D :: rs → H c = none) → Q (.ref D) H') :
    tLc (fun _ _ R => R J H) (gName i0) tYes te [i0] σ H Q := by
  intro D hD
  have hDb : D ≠ b := hb.ne hD
  refine lc_it wk (fun j G => ∃ (rs : List Addr) (vss : List (List V)), vss.length = j ∧ Step b H G ∧ Nest G D rs vss ∧ (∀ vs, vs ∈ vss → Pr vs) ∧ D ∉ rs ∧ ∀ c, c ∈ D :: rs → H c = none) ?_ ?_ ?_ ?_
  · refine ⟨[], [], rfl, Step.refl.new hb hD, ⟨upd_same, rfl, fun i r vs h1 _ => by simp at h1⟩, (fun v hv => by cases hv), (fun h => by cases h), fun c hc => ?_⟩
    rw [List.mem_singleton.mp hc]
    exact hD
  · rintro j G _ ⟨_, _, _, s, _⟩
    exact hW G s
  · rintro j x G G1 hj ⟨rs, vss, hl, s, N, hv, hDr, hf⟩ y
    obtain ⟨rfl, ht'⟩ := ht j x G G1 hj s y
    refine ⟨wipe_one, ht' _ fun l vs G' hp s' hl0 hl1 => ?_⟩
    have hlH : H l = none := s.free hb hl0
    have nDl : D ≠ l := ne_of_none N.lst hl0
    have hlr : rs.length = j := by rw [N.len, hl]
    have N' : Nest G' D rs vss := N.step s' fun hbm => hb.ne (hf b hbm) rfl
    refine ⟨rs.map V.ref, N'.lst, small_lt (by rw [List.length_map]; omega), rs ++ [l], vss ++ [vs], by rw [List.length_append, hl]; rfl, (s.trans s').new hb hD, ⟨?_, ?_, fun m c ws h1 h2 => ?_⟩, fun u hu => ?_, fun hm => ?_, fun c hc => ?_⟩
    · rw [upd_same, List.map_append]
      rfl
    · rw [List.length_append, List.length_append, N.len]
      rfl
    · have hcm := List.mem_of_getElem? h1
      by_cases hm : m < rs.length
      · rw [List.getElem?_append_left hm] at h1
        rw [List.getElem?_append_left (by rw [← N.len]; exact hm)] at h2
        rw [upd_ne (fun z => hDr (by rw [← z]; exact List.mem_of_getElem? h1))]
        exact N'.row m c ws h1 h2
      · have hm2 : m = rs.length := by
          have := (List.getElem?_eq_some_iff.mp h1).1
          rw [List.length_append] at this
          simp at this
          omega
        subst hm2
        have e1 : (rs ++ [l])[rs.length]? = some l := by simp
        have e2 : (vss ++ [vs])[rs.length]? = some vs := by rw [N.len]; simp
        obtain rfl : l = c := Option.some.inj (e1.symm.trans h1)
        obtain rfl : vs = ws := Option.some.inj (e2.symm.trans h2)
        rw [upd_ne (Ne.symm nDl)]
        exact hl1
    · rcases List.mem_append.mp hu with hu | hu
      · exact hv u hu
      · rw [List.mem_singleton.mp hu]
        exact hp
    · rcases List.mem_append.mp hm with hm | hm
      · exact hDr hm
      · exact nDl (List.mem_singleton.mp hm)
    · rcases List.mem_cons.mp hc with e | hc
      · rw [e]
        exact hD
      rcases List.mem_append.mp hc with hc | hc
      · exact hf c (List.mem_cons_of_mem _ hc)
      · rw [List.mem_singleton.mp hc]
        exact hlH
  · rintro G ⟨rs, vss, hl, s, N, hv, _, hf⟩
    exact hk D rs vss G s N hl hv hf
/-- the rows of ints behind their values -/
theorem rows_of {Pr : List Int → Prop} : ∀ vss : List (List V), (∀ vs, vs ∈ vss → ∃ row : List Int, vs = row.map V.int ∧ Pr row) → ∃ rows, vss = vI rows ∧ ∀ row, row ∈ rows → Pr row
  | [], _ => ⟨[], rfl, fun _ h => by cases h⟩
  | vs :: r, h => by
    obtain ⟨row, e, p⟩ := h vs List.mem_cons_self
    obtain ⟨rows, e2, p2⟩ := rows_of r fun u hu => h u (List.mem_cons_of_mem _ hu)
    refine ⟨row :: rows, by rw [e, e2]; rfl, fun u hu => ?_⟩
    rcases List.mem_cons.mp hu with q | q
    · rw [q]
      exact p
    · exact p2 u q
theorem ints_of {Pd : Int → Prop} : ∀ vs : List V, (∀ v, v ∈ vs → ∃ i : Int, v = .int i ∧ Pd i) → ∃ row : List Int, vs = row.map V.int ∧ ∀ s, s ∈ row → Pd s
  | [], _ => ⟨[], rfl, fun _ h => by cases h⟩
  | v :: r, h => by
    obtain ⟨i, e, p⟩ := h v List.mem_cons_self
    obtain ⟨row, e2, p2⟩ := ints_of r fun u hu => h u (List.mem_cons_of_mem _ hu)
    refine ⟨i :: row, by rw [e, e2]; rfl, fun u hu => ?_⟩
    rcases List.mem_cons.mp hu with q | q
    · rw [q]
      exact p
    · exact p2 u q
theorem strs_of {Pd : Str → Prop} : ∀ vs : List V, (∀ v, v ∈ vs → ∃ i : Str, v = .str i ∧ Pd i) → ∃ row : List Str, vs = row.map V.str ∧ ∀ s, s ∈ row → Pd s
  | [], _ => ⟨[], rfl, fun _ h => by cases h⟩
  | v :: r, h => by
    obtain ⟨i, e, p⟩ := h v List.mem_cons_self
    obtain ⟨row, e2, p2⟩ := strs_of r fun u hu => h u (List.mem_cons_of_mem _ hu)
    refine ⟨i :: row, by rw [e, e2]; rfl, fun u hu => ?_⟩
    rcases List.mem_cons.mp hu with q | q
    · rw [q]
      exact p
    · exact p2 u q
/-! ### _law_states -/
def rowGood (L n : Nat) (row : List Int) : Prop := row.length = n ∧ ∀ s, s ∈ row → 0 ≤ s ∧ s < (L : Int)
def spStates : Sp := fun vs H Q _ => ∃ (b : Addr) (L n : Nat), vs = [.ref b, .int (L : Int), .int (n : Int)] ∧ 1 ≤ L ∧ L ≤ 1000 ∧ n ≤ 1000 ∧ Box H b ∧
  ∀ (p : Addr) (rs : List Addr) (rows : List (List Int)) (H' : Hp), Step b H H' → Nest H' p rs (vI rows) → rows.length = L → (∀ row, row ∈ rows → rowGood L n row) → (∀ c, c ∈ p :: rs → H c = none) → Q (.ref p) H'
/-- what a return's comprehension says of its names -/
def retScope : Stmt → Scope
  | .Return (some (.ListComp _ _ sc _)) _ => sc
  | _ => { kind := .function, names := [], isGenerator := false, isCoroutine := false }
def scOuter : Scope := retScope ((defBody sStates).getD 0 (.Pass ⟨0, 0, 0, 0⟩))
/-- [_law_draw(box, many) for k in range(letters)] -/
def tDrawRow : TE := fun σ H Q => ∃ (b : Addr) (L n : Nat), σ[0]? = some (some (.ref b)) ∧ σ[1]? = some (some (.int (L : Int))) ∧ σ[2]? = some (some (.int (n : Int))) ∧ 4 < σ.length ∧ 1 ≤ L ∧ n ≤ 1000 ∧ Box H b ∧
  ∀ (D : Addr) (vs : List V) (H' : Hp), (∃ row : List Int, vs = row.map V.int ∧ rowGood L n row) → Step b H H' → H D = none → H' D = some (.lst vs) → Q (.ref D) H'
theorem get_wipe {σ : L2.St} {i j : Nat} {x : Option V} (h : i ≠ j) : ((wipe σ [i]).set i x)[j]? = σ[j]? := by
  show ((σ.set i none).set i x)[j]? = σ[j]?
  rw [List.getElem?_set_ne h, List.getElem?_set_ne h]
theorem len_wipe {σ : L2.St} {i : Nat} {x : Option V} : ((wipe σ [i]).set i x).length = σ.length := by rw [List.length_set, wipe_length]
theorem drawRow_imp {E : XK} : ∀ σ H Q, tDrawRow σ H Q → tLc (iRng1 (tCons (tVar 2) tNil)) (gName 4) tYes (tCall spDraw [] E (tCons (tVar 0) (tCons (tVar 1) tNil))) [4] σ H Q := fun σ H Q ⟨b, L, n, e0, e1, e2, hl, h1, hn, hb, k⟩ =>
  ⟨_, e2, (n : Int), rfl, by omega, by omega, vals_it (Q := Q) (n := ((n : Int)).toNat) walk_range (fun v => ∃ i : Int, v = .int i ∧ (0 ≤ i ∧ i < (L : Int))) (by rw [Int.toNat_natCast]; exact hn) hb (fun _ _ => True.intro)
    (fun i x G G1 _ s y => ⟨y.1, fun R hR => ⟨_, by rw [get_wipe (by decide)]; exact e0, _, by rw [get_wipe (by decide)]; exact e1, b, (L : Int), rfl, by omega, s.box hb, fun d G' d0 d1 s' => hR _ G' ⟨d, rfl, d0, d1⟩ s'⟩⟩)
    (fun D vs H' s hD hv hlen hp => k D vs H' (by
      obtain ⟨row, e, p⟩ := ints_of vs hp
      refine ⟨row, e, ?_, p⟩
      rw [e, List.length_map, Int.toNat_natCast] at hlen
      exact hlen) s hD hv)⟩
section
variable {P : Program} {w : World} {K : PySem.W.Frag} {mg : Str → Option Value} {base : Heap}
theorem scStates : FnScope ["_law_box", "_law_many", "_law_letters", "_law_i", "_law_k"] ["_law_box", "_law_many", "_law_letters"] (defScope sStates) := ⟨rfl, rfl, rfl, by decide +kernel, rfl, by decide +kernel, by decide +kernel⟩
theorem ok_states {f : Addr} {fd : FuncData} (F : Fun K "_law_states" "_law_states" sStates f fd) (T : Nm mg) (cD : Cal P w K mg base "_law_draw" CX0 1 ["_law_box", "_law_many"] spDraw) : FnOk P w K mg base CX0 2 f fd ["_law_box", "_law_many", "_law_letters"] spStates := by
  obtain ⟨fD, fdD, DD, GD, bD⟩ := cD.ex
  refine F.ok scStates (fun vs H Q E h => ?_) (fun cdv A outer s H vs Q E hr h => ?_)
  · obtain ⟨b, L, n, rfl, _⟩ := h
    rfl
  · obtain ⟨b, L, n, rfl, h1, hL, hn, hb, k⟩ := h
    refine ⟨_, pss_one (ps_ret (pe_lc (own := [("_law_i", 3)]) (g := gName 3) (tt := tYes) rfl scStates.nd (pi_range1 (by rfl) T.range (pa_cons (pv 1) pa_nil)) (blkOk_by (own := [("_law_i", 3)]) (N := ["_law_box", "_law_many", "_law_letters", "_law_i", "_law_k"]) (sc := defScope sStates) (by decide +kernel))
        (fun _ _ _ _ _ => pg_name (i := 3) scStates.nd rfl (Or.inl rfl)) (fun _ _ _ _ _ => pts_nil)
        (fun _ _ _ _ _ => pe_imp (pe_lc (own := [("_law_k", 4)]) (g := gName 4) (tt := tYes) rfl scStates.nd (pi_range1 (by rfl) T.range (pa_cons (pv 2) pa_nil)) (blkOk_by (own := [("_law_k", 4)]) (N := ["_law_box", "_law_many", "_law_letters", "_law_i", "_law_k"]) (sc := relS scOuter (defScope sStates)) (by decide +kernel))
          (fun _ _ _ _ _ => pg_name (i := 4) scStates.nd rfl (Or.inl rfl)) (fun _ _ _ _ _ => pts_nil)
          (fun _ _ _ _ _ => pe_call GD hr (by rfl) DD.m DD.k bD .nil pass0 (pa_cons (pv 0) (pa_cons (pv 1) pa_nil)))) drawRow_imp))), ?_⟩
    exact ⟨_, rfl, (L : Int), rfl, by omega, by omega, nest_it (Q := Q) (n := ((L : Int)).toNat) (H := H) (σ := L2.start ["_law_box", "_law_many", "_law_letters", "_law_i", "_law_k"] [V.ref b, V.int (L : Int), V.int (n : Int)]) (i0 := 3) (te := tDrawRow) walk_range
      (fun vs => ∃ row : List Int, vs = row.map V.int ∧ rowGood L n row) (by rw [Int.toNat_natCast]; exact hL) hb (fun _ _ => True.intro)
      (fun i x G G1 _ s y => ⟨y.1, fun R hR => ⟨b, L, n, rfl, rfl, rfl, (by show 4 < 5; decide), h1, hn, s.box hb, hR⟩⟩)
      (fun D rs vss H' s N hl hv hf => by
        obtain ⟨rows, e, p⟩ := rows_of vss hv
        rw [Int.toNat_natCast] at hl
        rw [e] at N
        exact k D rs rows H' s N (by rw [e, vI_len] at hl; exact hl) p hf)⟩
end
end Fk
/-! texts drawn from an alphabet -/
namespace Fk
open PySem PySem.Spec PyProof.Rows L2
theorem joinL_nil : ∀ ls : List (List Nat), TL.joinL [] ls = ls.flatten
  | [] => rfl
  | [p] => by simp [TL.joinL]
  | p :: q :: r => by
    have ih := joinL_nil (q :: r)
    show p ++ ([] ++ TL.joinL [] (q :: r)) = _
    rw [ih]
    simp
theorem join_codes (ys : List Str) : (Txt.join "" ys).cps.toList = (ys.map fun y => y.cps.toList).flatten := by
  have e0 : Txt.join "" ys = Str.join "" ys := StrLaws.glued_eq_join "" ys
  rw [e0]
  have e := TL.tl_join "" ys
  have z : TL.tl ("" : Str) = [] := by decide +kernel
  rw [z, joinL_nil] at e
  exact e
theorem join_signs {outs : Str} {ys : List Str} (h : ∀ y, y ∈ ys → ∃ c, y = ⟨#[c]⟩ ∧ c ∈ outs.cps.toList) : (Txt.join "" ys).length = ys.length ∧ ∀ c, c ∈ (Txt.join "" ys).cps.toList → c ∈ outs.cps.toList := by
  have e := join_codes ys
  refine ⟨?_, fun c hc => ?_⟩
  · show (Txt.join "" ys).cps.size = ys.length
    rw [← Array.length_toList, e]
    clear e
    induction ys with
    | nil => rfl
    | cons y r ih =>
      obtain ⟨c, e, _⟩ := h y List.mem_cons_self
      have ih := ih fun u hu => h u (List.mem_cons_of_mem _ hu)
      rw [List.map_cons, List.flatten_cons, List.length_append, ih, e]
      show 1 + r.length = r.length + 1
      omega
  · rw [e] at hc
    obtain ⟨l, hl, hcl⟩ := List.mem_flatten.mp hc
    obtain ⟨y, hy, rfl⟩ := List.mem_map.mp hl
    obtain ⟨d, e, hd⟩ := h y hy
    rw [e] at hcl
    rw [List.mem_singleton.mp hcl]
    exact hd
theorem sum_signs {outs : Str} : ∀ {ys : List Str}, (∀ y, y ∈ ys → ∃ c, y = ⟨#[c]⟩ ∧ c ∈ outs.cps.toList) → (ys.map (·.length)).sum = ys.length
  | [], _ => rfl
  | y :: r, h => by
    obtain ⟨c, e, _⟩ := h y List.mem_cons_self
    have ih := sum_signs (ys := r) fun u hu => h u (List.mem_cons_of_mem _ hu)
    rw [List.map_cons, List.sum_cons, ih, e]
    show 1 + r.length = r.length + 1
    omega
def rLenS : List V → Hp → VK → Prop := fun xs H Q => ∃ z : Str, xs = [.str z] ∧ z.length ≤ sizeLine ∧ Q (.int z.length) H
def rInt1 : List V → Hp → VK → Prop := fun xs H Q => (∃ i, xs = [.int i] ∧ Q (.int i) H) ∨ ∃ k, xs = [.bl k] ∧ Q (.int (if k then 1 else 0)) H
/-- a list of signs of outs, as many as ins has -/
def tSigns (i0 : Nat) : TE := fun σ H Q => ∃ (b : Addr) (ins outs : Str), σ[0]? = some (some (.ref b)) ∧ σ[1]? = some (some (.str ins)) ∧ σ[2]? = some (some (.str outs)) ∧ i0 < σ.length ∧ 1 ≤ outs.length ∧ outs.length ≤ 1000 ∧ ins.length ≤ 1000 ∧ Box H b ∧
  ∀ (D : Addr) (ys : List Str) (H' : Hp), Step b H H' → H' D = some (.lst (ys.map V.str)) → ys.length = ins.length → (∀ y, y ∈ ys → ∃ c, y = ⟨#[c]⟩ ∧ c ∈ outs.cps.toList) → Q (.ref D) H'
theorem sign_at {outs : Str} {i : Int} (h0 : 0 ≤ i) (h1 : i < (outs.length : Int)) : ∃ c, atI outs.cps.toList i = some c ∧ c ∈ outs.cps.toList := by
  obtain ⟨j, rfl⟩ : ∃ j : Nat, i = (j : Int) := ⟨i.toNat, by omega⟩
  have hj : j < outs.cps.toList.length := by
    rw [Array.length_toList]
    have : outs.length = outs.cps.size := rfl
    omega
  exact ⟨outs.cps.toList[j], atI_nat (List.getElem?_eq_getElem hj), List.getElem_mem hj⟩
theorem signs1_imp {E : XK} : ∀ σ H Q, tSigns 14 σ H Q → tLc (iStr (tVar 1)) (gName 14) tYes (tOp rIxS (tVar 2) (tCall spDraw [] E (tCons (tVar 0) (tCons (tCB rLenS (tCons (tVar 2) tNil)) tNil)))) [14] σ H Q := fun σ H Q ⟨b, ins, outs, e0, e1, e2, hl, h1, ho, hi, hb, k⟩ =>
  ⟨_, e1, ins, rfl, vals_it (Q := Q) (n := ins.cps.size) walk_str (fun v => ∃ y : Str, v = .str y ∧ ∃ c, y = ⟨#[c]⟩ ∧ c ∈ outs.cps.toList) hi hb (fun _ _ => True.intro)
    (fun i x G G1 _ s y => ⟨y.1, fun R hR => ⟨_, by rw [get_wipe (by decide)]; exact e2, _, by rw [get_wipe (by decide)]; exact e0, _, by rw [get_wipe (by decide)]; exact e2, outs, rfl, sz_le ho, b, (outs.length : Int), rfl, by omega, s.box hb, fun d G' d0 d1 s' => by
      obtain ⟨c, ec, hc⟩ := sign_at d0 d1
      exact ⟨outs, d, c, rfl, rfl, sz_le ho, ec, hR _ G' ⟨_, rfl, c, rfl, hc⟩ s'⟩⟩⟩)
    (fun D vs H' s hD hv hlen hp => by
      obtain ⟨ys, e, p⟩ := strs_of vs hp
      rw [e] at hv
      refine k D ys H' s hv ?_ p
      rw [e, List.length_map] at hlen
      exact hlen)⟩
theorem signs2_imp : ∀ σ H Q, tSigns 15 σ H Q → tLc (iRng1 (tCons (tCB rLenS (tCons (tVar 1) tNil)) tNil)) (gName 15) tYes (tOp rIxS (tVar 2) (tOp (rI (fun _ j => 0 < j) fun i j => .int (i % j)) (tCB rInt1 (tCons (tVar 15) tNil)) (tCB rLenS (tCons (tVar 2) tNil)))) [15] σ H Q := fun σ H Q ⟨b, ins, outs, e0, e1, e2, hl, h1, ho, hi, hb, k⟩ =>
  ⟨_, e1, ins, rfl, sz_le hi, (ins.length : Int), rfl, by omega, by omega, vals_it (Q := Q) (n := ((ins.length : Int)).toNat) walk_range (fun v => ∃ y : Str, v = .str y ∧ ∃ c, y = ⟨#[c]⟩ ∧ c ∈ outs.cps.toList) (by rw [Int.toNat_natCast]; exact hi) hb (fun _ _ => True.intro)
    (fun i x G G1 _ s ⟨y1, y2⟩ => ⟨y1, fun R hR => ⟨_, by rw [get_wipe (by decide)]; exact e2, _, wipe_get hl, .inl ⟨0 + (i : Int), by rw [y2], _, by rw [get_wipe (by decide)]; exact e2, outs, rfl, sz_le ho, _, _, rfl, rfl, by omega, by
      obtain ⟨c, ec, hc⟩ := sign_at (outs := outs) (i := (0 + (i : Int)) % (outs.length : Int)) (Int.emod_nonneg _ (by omega)) (Int.emod_lt_of_pos _ (by omega))
      exact ⟨outs, _, c, rfl, rfl, sz_le ho, ec, hR _ G ⟨_, rfl, c, rfl, hc⟩ Step.refl⟩⟩⟩⟩)
    (fun D vs H' s hD hv hlen hp => by
      obtain ⟨ys, e, p⟩ := strs_of vs hp
      rw [e] at hv
      refine k D ys H' s hv ?_ p
      rw [e, List.length_map, Int.toNat_natCast] at hlen
      exact hlen)⟩
/-- such signs in a row -/
def tText (i0 : Nat) : TE := fun σ H Q => ∃ (b : Addr) (ins outs : Str), σ[0]? = some (some (.ref b)) ∧ σ[1]? = some (some (.str ins)) ∧ σ[2]? = some (some (.str outs)) ∧ i0 < σ.length ∧ 1 ≤ outs.length ∧ outs.length ≤ 1000 ∧ ins.length ≤ 1000 ∧ Box H b ∧
  ∀ (z : Str) (H' : Hp), Step b H H' → z.length = ins.length → (∀ c, c ∈ z.cps.toList → c ∈ outs.cps.toList) → Q (.str z) H'
def rJoin (K : PySem.W.Frag) : V → List V → Hp → VK → Prop := fun x xs H Q => ∃ a p, ∃ ys : List Str, x = .str a ∧ xs = [.ref p] ∧ (SqL K H p (ys.map V.str) ∨ SqT K H p (ys.map V.str)) ∧ (ys.map (·.length)).sum + ys.length * a.length ≤ 16777216 ∧ Q (.str (Txt.join a ys)) H
theorem text_imp {K : PySem.W.Frag} {i0 : Nat} : ∀ σ H Q, tText i0 σ H Q → tM1 (rJoin K) (tC (.str "")) (tSigns i0) σ H Q := fun σ H Q ⟨b, ins, outs, e0, e1, e2, hl, h1, ho, hi, hb, k⟩ =>
  ⟨⟨_, rfl⟩, b, ins, outs, e0, e1, e2, hl, h1, ho, hi, hb, fun D ys H' s hD hlen hp => ⟨"", D, ys, rfl, rfl, .inl (SqL.of hD), (by
      rw [sum_signs hp]
      have : ("" : Str).length = 0 := by decide +kernel
      rw [this]
      omega), k _ H' s (by rw [(join_signs hp).1, hlen]) (join_signs hp).2⟩⟩
theorem nest_push {G : Hp} {t q : Addr} {ts : List Addr} {vss : List (List V)} {vs : List V} (n : Nest G t ts vss) (ht : t ∉ ts) (hq : q ≠ t) (hv : G q = some (.lst vs)) : Nest (upd G t (.lst (ts.map V.ref ++ [.ref q]))) t (ts ++ [q]) (vss ++ [vs]) := by
  refine ⟨by rw [upd_same, List.map_append]; rfl, by rw [List.length_append, List.length_append, n.len]; rfl, fun m c ws h1 h2 => ?_⟩
  by_cases hm : m < ts.length
  · rw [List.getElem?_append_left hm] at h1
    rw [List.getElem?_append_left (by rw [← n.len]; exact hm)] at h2
    rw [upd_ne (fun z => ht (by rw [← z]; exact List.mem_of_getElem? h1))]
    exact n.row m c ws h1 h2
  · have hm2 : m = ts.length := by
      have := (List.getElem?_eq_some_iff.mp h1).1
      rw [List.length_append] at this
      simp at this
      omega
    subst hm2
    have e1 : (ts ++ [q])[ts.length]? = some q := by simp
    have e2 : (vss ++ [vs])[ts.length]? = some vs := by rw [n.len]; simp
    obtain rfl : q = c := Option.some.inj (e1.symm.trans h1)
    obtain rfl : vs = ws := Option.some.inj (e2.symm.trans h2)
    rw [upd_ne hq]
    exact hv
end Fk
/-! _law_machine -/
namespace Fk
open PySem PySem.Spec PyProof.Rows L2
/-- a box is none of the lists of a nest of ints or of strs -/
theorem Box.off {H : Hp} {b p : Addr} {rs : List Addr} {vss : List (List V)} (h : Box H b) (n : Nest H p rs vss) (f : Flat2 vss) : b ∉ p :: rs := fun hc => by
  obtain ⟨c, k, ns, e, _⟩ := h
  rcases List.mem_cons.mp hc with z | z
  · have e1 := n.lst
    rw [← z, e] at e1
    have e2 := HO.lst.inj (Option.some.inj e1)
    match rs, e2 with
    | [], e2 => cases e2
    | [_], e2 => cases e2
    | _ :: _ :: _, e2 => cases (List.cons.inj (List.cons.inj e2).2).1
  · obtain ⟨i, hi⟩ := List.mem_iff_getElem?.mp z
    obtain ⟨vs, hv, e1⟩ := n.of_addr hi
    rw [e] at e1
    have e2 := HO.lst.inj (Option.some.inj e1)
    rcases f vs (List.mem_of_getElem? hv) (.ref c) (by rw [← e2]; exact List.mem_cons_self) with ⟨_, q⟩ | ⟨_, q⟩ <;> cases q
theorem PartsAt.step {H H' : Hp} {b p : Addr} {m : Parts} {l r t : Addr} {ls rs ts : List Addr} (h : PartsAt H p m l ls r rs t ts) (hb : Box H b) (s : Step b H H') : PartsAt H' p m l ls r rs t ts := by
  refine ⟨s.k _ _ (fun z => ?_) h.ob, h.nl.step s (hb.off h.nl (flat_vI _)), h.nr.step s (hb.off h.nr (flat_vI _)), h.nt.step s (hb.off h.nt (flat_vS _))⟩
  obtain ⟨c, k, ns, e, _⟩ := hb
  have e1 := h.ob
  rw [z, e] at e1
  cases e1
def spMaker : Sp := fun vs H Q _ => ∃ (b : Addr) (ins outs : Str), vs = [.ref b, .str ins, .str outs, .int 6] ∧ Alpha ins ∧ Alpha outs ∧ Box H b ∧
  ∀ (p l r t : Addr) (ls rs ts : List Addr) (m : Parts) (H' : Hp), Step b H H' → PartsAt H' p m l ls r rs t ts → Good m → Q (.ref p) H'
/-- a line of the table so far -/
def lineOk (ins outs : Str) (zs : List Str) : Prop := ∀ z, z ∈ zs → z.length = ins.length ∧ ∀ c, c ∈ z.cps.toList → c ∈ outs.cps.toList
section
variable {P : Program} {w : World} {K : PySem.W.Frag} {mg : Str → Option Value} {base : Heap}
theorem scMaker : FnScope ["_law_box", "_law_ins", "_law_outs", "_law_most", "_law_lefts", "_law_rights", "_law_left", "_law_right", "_law_bland", "_law_table", "_law_i", "_law_line", "_law_j", "_law_text", "_law_letter", "_law_k"] ["_law_box", "_law_ins", "_law_outs", "_law_most"] (defScope sMaker) := ⟨rfl, rfl, rfl, by decide +kernel, rfl, by decide +kernel, by decide +kernel⟩
theorem ok_maker {f : Addr} {fd : FuncData} (F : Fun K "_law_machine" "_law_machine" sMaker f fd) (T : Nm mg) (cD : Cal P w K mg base "_law_draw" CX0 1 ["_law_box", "_law_many"] spDraw) (cS : Cal P w K mg base "_law_states" CX0 2 ["_law_box", "_law_many", "_law_letters"] spStates) :
    FnOk P w K mg base CX0 3 f fd ["_law_box", "_law_ins", "_law_outs", "_law_most"] spMaker := by
  obtain ⟨fD, fdD, DD, GD, bD⟩ := cD.ex
  obtain ⟨fS, fdS, DS, GS, bS⟩ := cS.ex
  refine F.ok scMaker (fun vs H Q E h => ?_) (fun cdv A outer s H vs Q E hr h => ?_)
  · obtain ⟨b, ins, outs, rfl, _⟩ := h
    rfl
  · obtain ⟨b, ins, outs, rfl, hA, hO, hb, k⟩ := h
    have hr1 : Room 1 _ := hr.mono (by decide)
    obtain ⟨i1, i4⟩ := alpha_len hA
    obtain ⟨o1, o4⟩ := alpha_len hO
    refine ⟨_, pss_cons (ps_set (i := 4) scMaker.nd rfl (Or.inl rfl) (pe_op op_add pe_int (pe_call GD hr1 (by rfl) DD.m DD.k bD .nil pass0 (pa_cons (pv 0) (pa_cons (pv 3) pa_nil)))))
      (pss_cons (ps_set (i := 5) scMaker.nd rfl (Or.inl rfl) (pe_op op_add pe_int (pe_call GD hr1 (by rfl) DD.m DD.k bD .nil pass0 (pa_cons (pv 0) (pa_cons (pv 3) pa_nil)))))
      (pss_cons (ps_set (i := 6) scMaker.nd rfl (Or.inl rfl) (pe_call GS hr (by rfl) DS.m DS.k bS .nil pass0 (pa_cons (pv 0) (pa_cons (pv 4) (pa_cons (pe_callB call_len_str (by rfl) T.len bt_len (pa_cons (pv 1) pa_nil)) pa_nil)))))
      (pss_cons (ps_set (i := 7) scMaker.nd rfl (Or.inl rfl) (pe_call GS hr (by rfl) DS.m DS.k bS .nil pass0 (pa_cons (pv 0) (pa_cons (pv 5) (pa_cons (pe_callB call_len_str (by rfl) T.len bt_len (pa_cons (pv 1) pa_nil)) pa_nil)))))
      (pss_cons (ps_set (i := 8) scMaker.nd rfl (Or.inl rfl) (pe_call GD hr1 (by rfl) DD.m DD.k bD .nil pass0 (pa_cons (pv 0) (pa_cons pe_int pa_nil))))
      (pss_cons (ps_set (i := 9) scMaker.nd rfl (Or.inl rfl) (pe_lst pa_nil))
      (pss_cons (ps_for PassesOwn.never rfl (pi_range1 (by rfl) T.range (pa_cons (pv 4) pa_nil)) (pg_name (i := 10) scMaker.nd rfl (Or.inl rfl))
        (pss_cons (ps_set (i := 11) scMaker.nd rfl (Or.inl rfl) (pe_lst pa_nil))
        (pss_cons (ps_for PassesOwn.never rfl (pi_range1 (by rfl) T.range (pa_cons (pv 5) pa_nil)) (pg_name (i := 12) scMaker.nd rfl (Or.inl rfl))
          (pss_cons (ps_set (i := 13) scMaker.nd rfl (Or.inl rfl) (pe_imp (pe_join pe_str (pe_imp (pe_lc (own := [("_law_letter", 14)]) (g := gName 14) (tt := tYes) rfl scMaker.nd (pi_str (pv 1)) (blkOk_by (own := [("_law_letter", 14)]) (N := ["_law_box", "_law_ins", "_law_outs", "_law_most", "_law_lefts", "_law_rights", "_law_left", "_law_right", "_law_bland", "_law_table", "_law_i", "_law_line", "_law_j", "_law_text", "_law_letter", "_law_k"]) (sc := defScope sMaker) (by decide +kernel))
              (fun _ _ _ _ _ => pg_name (i := 14) scMaker.nd rfl (Or.inl rfl)) (fun _ _ _ _ _ => pts_nil)
              (fun _ _ _ _ _ => pe_ix ix_str (pv 2) (pe_call GD hr1 (by rfl) DD.m DD.k bD .nil pass0 (pa_cons (pv 0) (pa_cons (pe_callB call_len_str (by rfl) T.len bt_len (pa_cons (pv 2) pa_nil)) pa_nil))) (fun _ _ => rfl))) signs1_imp)) text_imp))
          (C8.pss_cut (ps_if (PW.pt (pw_and (pt_cmpR op_eq (pv 8) pe_int (nomark _)) (pw_and1 (pt_cmpR op_gt (pe_call GD hr1 (by rfl) DD.m DD.k bD .nil pass0 (pa_cons (pv 0) (pa_cons pe_int pa_nil))) pe_int (nomark _)))))
            (pss_one (ps_set (i := 13) scMaker.nd rfl (Or.inl rfl) (pe_imp (pe_join pe_str (pe_imp (pe_lc (own := [("_law_k", 15)]) (g := gName 15) (tt := tYes) rfl scMaker.nd (pi_range1 (by rfl) T.range (pa_cons (pe_callB call_len_str (by rfl) T.len bt_len (pa_cons (pv 1) pa_nil)) pa_nil)) (blkOk_by (own := [("_law_k", 15)]) (N := ["_law_box", "_law_ins", "_law_outs", "_law_most", "_law_lefts", "_law_rights", "_law_left", "_law_right", "_law_bland", "_law_table", "_law_i", "_law_line", "_law_j", "_law_text", "_law_letter", "_law_k"]) (sc := defScope sMaker) (by decide +kernel))
              (fun _ _ _ _ _ => pg_name (i := 15) scMaker.nd rfl (Or.inl rfl)) (fun _ _ _ _ _ => pts_nil)
              (fun _ _ _ _ _ => pe_ix ix_str (pv 2) (pe_op op_mod (pe_callTy call_int1 (by rfl) T.int bt_int (pa_cons (pv 15) pa_nil)) (pe_callB call_len_str (by rfl) T.len bt_len (pa_cons (pv 2) pa_nil))) (fun _ _ => rfl))) signs2_imp)) text_imp))) pss_nil)
          (pss_one (ps_expr (pe_bm PySem.F.plainAttrs_list PySem.F.slot_list_append PySem.F.type_list_append mt_append (pv 11) (pa_cons (pv 13) pa_nil)))))))
        (pss_one (ps_expr (pe_bm PySem.F.plainAttrs_list PySem.F.slot_list_append PySem.F.type_list_append mt_append (pv 9) (pa_cons (pv 11) pa_nil)))))))
      (pss_one (ps_ret (pe_lst (pa_cons (pv 1) (pa_cons (pv 2) (pa_cons (pv 6) (pa_cons (pv 7) (pa_cons (pv 9) pa_nil)))))))))))))), ?_⟩
    refine ⟨_, rfl, _, rfl, b, 6, rfl, by decide, hb, fun d1 H1 d10 d16 s1 => ⟨_, _, rfl, rfl, ?_⟩⟩
    obtain ⟨L, hL⟩ : ∃ L : Nat, 1 + d1 = (L : Int) := ⟨(1 + d1).toNat, by omega⟩
    show gName 4 (V.int (1 + d1)) _ _ _
    rw [hL]
    have hb1 := s1.box hb
    refine ⟨_, rfl, _, rfl, b, 6, rfl, by decide, hb1, fun d2 H2 d20 d26 s2 => ⟨_, _, rfl, rfl, ?_⟩⟩
    obtain ⟨R, hR⟩ : ∃ R : Nat, 1 + d2 = (R : Int) := ⟨(1 + d2).toNat, by omega⟩
    show gName 5 (V.int (1 + d2)) _ _ _
    rw [hR]
    have hb2 := s2.box hb1
    -- left
    refine ⟨_, rfl, _, rfl, _, rfl, ins, rfl, sz_le (by omega), b, L, ins.length, rfl, by omega, by omega, by omega, hb2, fun l ls lrows H3 s3 nl ll lg lf => ?_⟩
    have hb3 := s3.box hb2
    -- right
    refine ⟨_, rfl, _, rfl, _, rfl, ins, rfl, sz_le (by omega), b, R, ins.length, rfl, by omega, by omega, by omega, hb3, fun r rs rrows H4 s4 nr rl rg rf => ?_⟩
    have hb4 := s4.box hb3
    have nl4 := nl.step s4 (hb3.off nl (flat_vI _))
    refine ⟨_, rfl, b, 3, rfl, by decide, hb4, fun bl H5 bl0 bl3 s5 => ?_⟩
    have hb5 := s5.box hb4
    have nl5 := nl4.step s5 (hb4.off nl4 (flat_vI _))
    have nr5 := nr.step s5 (hb4.off nr (flat_vI _))
    -- table = []
    refine ⟨(by decide), fun t ht => ?_⟩
    refine ⟨_, rfl, (L : Int), rfl, by omega, by omega, for_range (lo := 0) (n := ((L : Int)).toNat) (fun i σ G => ∃ (v10 v11 v12 v13 v14 v15 : Option V) (ts : List Addr) (rows : List (List Str)),
        σ = [some (.ref b), some (.str ins), some (.str outs), some (.int 6), some (.int (L : Int)), some (.int (R : Int)), some (.ref l), some (.ref r), some (.int bl), some (.ref t), v10, v11, v12, v13, v14, v15] ∧
        Step b H5 G ∧ Nest G t ts (vS rows) ∧ rows.length = i ∧ t ∉ ts ∧ (∀ c, c ∈ t :: ts → H5 c = none) ∧ ∀ row, row ∈ rows → row.length = R ∧ lineOk ins outs row)
      ⟨none, none, none, none, none, none, [], [], rfl, Step.refl.new hb5 ht, ⟨upd_same, rfl, fun i r vs h1 _ => by simp at h1⟩, rfl, (fun h => by cases h), (fun c hc => by rw [List.mem_singleton.mp hc]; exact ht), (fun row h => by cases h)⟩ ?_ ?_⟩
    · rintro i σ G hi ⟨v10, v11, v12, v13, v14, v15, ts, rows, rfl, s, N, hlen, htt, hnew, hrows⟩
      have hbG := s.box hb5
      -- line = []
      refine ⟨(by decide), fun q hq => ?_⟩
      have hqt : q ≠ t := fun z => by
        rw [z, N.lst] at hq
        cases hq
      refine ⟨_, rfl, (R : Int), rfl, by omega, by omega, for_range (lo := 0) (n := ((R : Int)).toNat) (fun j σ G' => ∃ (v12 v13 v14 v15 : Option V) (zs : List Str),
          σ = [some (.ref b), some (.str ins), some (.str outs), some (.int 6), some (.int (L : Int)), some (.int (R : Int)), some (.ref l), some (.ref r), some (.int bl), some (.ref t), some (.int (0 + (i : Int))), some (.ref q), v12, v13, v14, v15] ∧
          Step b G G' ∧ G' q = some (.lst (zs.map V.str)) ∧ zs.length = j ∧ lineOk ins outs zs)
        ⟨_, _, _, _, [], rfl, Step.refl.new hbG hq, upd_same, rfl, (fun z h => by cases h)⟩ ?_ ?_⟩
      · rintro j σ G2 hj ⟨w12, w13, w14, w15, zs, rfl, s2, hG2, hzl, hzs⟩
        have hbG2 := s2.box hbG
        -- the text
        refine ⟨b, ins, outs, rfl, rfl, rfl, (by show 14 < 16; decide), o1, by omega, by omega, hbG2, fun z G3 s3' hz1 hz2 => ?_⟩
        have hbG3 := s3'.box hbG2
        refine ⟨fun σ G' => ∃ z : Str, σ = [some (.ref b), some (.str ins), some (.str outs), some (.int 6), some (.int (L : Int)), some (.int (R : Int)), some (.ref l), some (.ref r), some (.int bl), some (.ref t), some (.int (0 + (i : Int))), some (.ref q), some (.int (0 + (j : Int))), some (.str z), w14, w15] ∧
          Step b G G' ∧ G' q = some (.lst (zs.map V.str)) ∧ z.length = ins.length ∧ ∀ c, c ∈ z.cps.toList → c ∈ outs.cps.toList, ?_, ?_⟩
        · have next : ∀ (G' : Hp) (z : Str), Step b G G' → G' q = some (.lst (zs.map V.str)) → z.length = ins.length → (∀ c, c ∈ z.cps.toList → c ∈ outs.cps.toList) → ∃ z' : Str, [some (V.ref b), some (.str ins), some (.str outs), some (.int 6), some (.int (L : Int)), some (.int (R : Int)), some (.ref l), some (.ref r), some (.int bl), some (.ref t), some (.int (0 + (i : Int))), some (.ref q), some (.int (0 + (j : Int))), some (.str z), w14, w15] = [some (.ref b), some (.str ins), some (.str outs), some (.int 6), some (.int (L : Int)), some (.int (R : Int)), some (.ref l), some (.ref r), some (.int bl), some (.ref t), some (.int (0 + (i : Int))), some (.ref q), some (.int (0 + (j : Int))), some (.str z'), w14, w15] ∧
              Step b G G' ∧ G' q = some (.lst (zs.map V.str)) ∧ z'.length = ins.length ∧ ∀ c, c ∈ z'.cps.toList → c ∈ outs.cps.toList := fun G' z h1 h2 h3 h4 => ⟨z, rfl, h1, h2, h3, h4⟩
          have hqb : q ≠ b := hbG.ne hq
          have hG3 := s3'.k _ _ hqb hG2
          by_cases c0 : V.int bl = V.int 0
          · refine ⟨_, rfl, rfl, decide (V.int bl = V.int 0), rfl, ?_⟩
            rw [decide_eq_true c0]
            refine ⟨_, rfl, b, 4, rfl, by decide, hbG3, fun d3 G4 d30 d34 s4' => ⟨_, _, rfl, rfl, _, rfl, ite2 (fun c1 => ?_) (fun c1 => ?_)⟩⟩
            · refine ⟨b, ins, outs, rfl, rfl, rfl, (by show 15 < 16; decide), o1, by omega, by omega, s4'.box hbG3, fun z' G5 s5' hy1 hy2 => ?_⟩
              exact next _ _ (((s2.trans s3').trans s4').trans s5') (s5'.k _ _ hqb (s4'.k _ _ hqb hG3)) hy1 hy2
            · exact next _ _ ((s2.trans s3').trans s4') (s4'.k _ _ hqb hG3) hz1 hz2
          · refine ⟨_, rfl, rfl, decide (V.int bl = V.int 0), rfl, ?_⟩
            rw [decide_eq_false c0]
            exact next _ _ (s2.trans s3') hG3 hz1 hz2
        · rintro σ G4 ⟨z, rfl, s4', hG4, hz3, hz4⟩
          refine ⟨_, rfl, .inl ⟨rfl, _, SqL.of hG4⟩, _, rfl, q, _, _, rfl, rfl, hG4, small_lt (by rw [List.length_map]; simp at hj; omega), ?_⟩
          refine ⟨_, _, _, _, zs ++ [z], rfl, s4'.new hbG hq, by rw [upd_same, List.map_append]; rfl, by rw [List.length_append, hzl]; rfl, fun u hu => ?_⟩
          rcases List.mem_append.mp hu with hu | hu
          · exact hzs u hu
          · rw [List.mem_singleton.mp hu]
            exact ⟨hz3, hz4⟩
      · rintro σ G2 ⟨w12, w13, w14, w15, zs, rfl, s2, hG2, hzl, hzs⟩
        rw [Int.toNat_natCast] at hzl
        have hbt : b ∉ t :: ts := fun hc => hb5.ne (hnew b hc) rfl
        have N2 := N.step s2 hbt
        have N3 := nest_push (q := q) N2 htt hqt hG2
        have hlr : ts.length = rows.length := by rw [N.len, vS_len]
        refine ⟨_, rfl, .inl ⟨rfl, _, SqL.of N2.lst⟩, _, rfl, t, _, _, rfl, rfl, N2.lst, small_lt (by rw [List.length_map]; simp at hi; omega), ?_⟩
        refine ⟨_, _, _, _, _, _, ts ++ [q], rows ++ [zs], rfl, (s.trans s2).new hb5 (hnew t List.mem_cons_self), ?_, by rw [List.length_append, hlen]; rfl, fun hc => ?_, fun c hc => ?_, fun row hrow => ?_⟩
        · have e : vS (rows ++ [zs]) = vS rows ++ [zs.map V.str] := by
            unfold vS
            rw [List.map_append]
            rfl
          rw [e]
          exact N3
        · rcases List.mem_append.mp hc with hc | hc
          · exact htt hc
          · exact hqt (List.mem_singleton.mp hc).symm
        · rcases List.mem_cons.mp hc with e | hc
          · exact hnew c (by rw [e]; exact List.mem_cons_self)
          rcases List.mem_append.mp hc with hc | hc
          · exact hnew c (List.mem_cons_of_mem _ hc)
          · rw [List.mem_singleton.mp hc]
            exact s.free hb5 hq
        · rcases List.mem_append.mp hrow with hrow | hrow
          · exact hrows row hrow
          · rw [List.mem_singleton.mp hrow]
            exact ⟨hzl, hzs⟩
    · rintro σ G ⟨v10, v11, v12, v13, v14, v15, ts, rows, rfl, s, N, hlen, htt, hnew, hrows⟩
      rw [Int.toNat_natCast] at hlen
      have nl6 := nl5.step s (hb5.off nl5 (flat_vI _))
      have nr6 := nr5.step s (hb5.off nr5 (flat_vI _))
      have sG : Step b H G := ((((s1.trans s2).trans s3).trans s4).trans s5).trans s
      refine ⟨_, rfl, _, rfl, _, rfl, _, rfl, _, rfl, (by show 5 ≤ sizeLine; decide), fun p hp => ?_⟩
      have Tq := same_new (o := .lst [.str ins, .str outs, .ref l, .ref r, .ref t]) (Same.refl _) hp
      refine k p l r t ls rs ts ⟨ins, outs, lrows, rrows, rows⟩ _ (sG.trans (.of_same Tq)) ⟨upd_same, nl6.same Tq, nr6.same Tq, N.same Tq⟩ ⟨hA, hO, ?_, ?_, ?_, ?_, ?_, ?_, ?_, ?_⟩
      · show 1 ≤ lrows.length
        omega
      · show lrows.length ≤ 6
        omega
      · show 1 ≤ rrows.length
        omega
      · show rrows.length ≤ 6
        omega
      · intro row hr'
        show row.length = ins.length ∧ ∀ s, s ∈ row → 0 ≤ s ∧ s < (lrows.length : Int)
        rw [ll]
        exact lg row hr'
      · intro row hr'
        show row.length = ins.length ∧ ∀ s, s ∈ row → 0 ≤ s ∧ s < (rrows.length : Int)
        rw [rl]
        exact rg row hr'
      · show rows.length = lrows.length
        omega
      · intro row hr'
        show row.length = rrows.length ∧ _
        rw [rl]
        exact hrows row hr'
end
end Fk
/-! parts in hand, and what spoils them -/
namespace Fk
open PySem PySem.Spec PyProof.Rows L2
theorem Good.small {m : Parts} (g : Good m) : Small m := by
  have a := alpha_len g.ins
  have b := alpha_len g.outs
  have c := g.l6
  have d := g.r6
  have e := g.tlen
  refine ⟨by omega, by omega, by omega, by omega, by omega, fun row hr z hz => ?_⟩
  have := ((g.trow row hr).2 z hz).1
  omega
def psOf (m : Parts) (l r t : Addr) : List V := [.str m.reads, .str m.writes, .ref l, .ref r, .ref t]
def sx {α : Type} (k : Bool) (a b : α) : α := cond k b a
/-- new parts at q, apart, that stand since H -/
structure Spo (b : Addr) (H G : Hp) (q : Addr) (m : Parts) (l : Addr) (ls : List Addr) (r : Addr) (rs : List Addr) (t : Addr) (ts : List Addr) : Prop where
  s : Step b H G
  hb : Box H b
  pa : PartsAt G q m l ls r rs t ts
  g : Good m
  nq : H q = none
  nl : ∀ c, c ∈ l :: ls → H c = none
  nr : ∀ c, c ∈ r :: rs → H c = none
  nt : ∀ c, c ∈ t :: ts → H c = none
  dl : (l :: ls).Nodup
  dr : (r :: rs).Nodup
  dt : (t :: ts).Nodup
  lr : ∀ c, c ∈ l :: ls → c ∉ r :: rs
  lt : ∀ c, c ∈ l :: ls → c ∉ t :: ts
  rt : ∀ c, c ∈ r :: rs → c ∉ t :: ts
  ql : q ∉ l :: ls
  qr : q ∉ r :: rs
  qt : q ∉ t :: ts
def BadAt (G : Hp) (q : Addr) : Prop := ∃ (m : Parts) (l : Addr) (ls : List Addr) (r : Addr) (rs : List Addr) (t : Addr) (ts : List Addr), PartsAt G q m l ls r rs t ts ∧ machineOk m = false ∧ Small m
section
variable {b : Addr} {H G G' : Hp} {q : Addr} {m : Parts} {l : Addr} {ls : List Addr} {r : Addr} {rs : List Addr} {t : Addr} {ts : List Addr}
theorem Spo.box (S : Spo b H G q m l ls r rs t ts) : Box G b := S.s.box S.hb
theorem Spo.step (S : Spo b H G q m l ls r rs t ts) (s' : Step b G G') : Spo b H G' q m l ls r rs t ts :=
  { S with s := S.s.trans s', pa := S.pa.step S.box s' }
theorem Spo.new (S : Spo b H G q m l ls r rs t ts) {n : Addr} {o : HO} (h : G n = none) : Spo b H (upd G n o) q m l ls r rs t ts := S.step (Step.refl.new S.box h)
theorem Spo.ix (_ : Spo b H G q m l ls r rs t ts) (k : Bool) : atI (psOf m l r t) (sx k 2 3 : Int) = some (.ref (sx k l r)) := by cases k <;> rfl
theorem Spo.sn (S : Spo b H G q m l ls r rs t ts) (k : Bool) : Nest G (sx k l r) (sx k ls rs) (vI (sx k m.left m.right)) := by
  cases k
  · exact S.pa.nl
  · exact S.pa.nr
theorem Spo.sd (S : Spo b H G q m l ls r rs t ts) (k : Bool) : (sx k l r :: sx k ls rs).Nodup := by
  cases k
  · exact S.dl
  · exact S.dr
theorem Spo.snew (S : Spo b H G q m l ls r rs t ts) (k : Bool) : ∀ c, c ∈ sx k l r :: sx k ls rs → H c = none := by
  cases k
  · exact S.nl
  · exact S.nr
theorem Spo.sq (S : Spo b H G q m l ls r rs t ts) (k : Bool) : q ∉ sx k l r :: sx k ls rs := by
  cases k
  · exact S.ql
  · exact S.qr
theorem Spo.slen (S : Spo b H G q m l ls r rs t ts) (k : Bool) : 1 ≤ (sx k m.left m.right).length ∧ (sx k m.left m.right).length ≤ 6 := by
  cases k
  · exact ⟨S.g.l1, S.g.l6⟩
  · exact ⟨S.g.r1, S.g.r6⟩
theorem Spo.srow (S : Spo b H G q m l ls r rs t ts) (k : Bool) : ∀ row, row ∈ sx k m.left m.right → row.length = m.reads.length := by
  cases k
  · exact fun row h => (S.g.lrow row h).1
  · exact fun row h => (S.g.rrow row h).1
theorem Spo.inner (S : Spo b H G q m l ls r rs t ts) (k : Bool) {xs' : List Addr} {rows' : List (List Int)} (hk : ∀ c o, c ∉ sx k l r :: sx k ls rs → G c = some o → G' c = some o) (n : Nest G' (sx k l r) xs' (vI rows')) (hbad : rowsOk rows' m.reads.length = false) (hlen : rows'.length ≤ 1000) : BadAt G' q := by
  have sm := S.g.small
  cases k
  · refine ⟨{ m with left := rows' }, l, xs', r, rs, t, ts, ⟨hk q _ S.ql S.pa.ob, n, S.pa.nr.keep fun c hc o e => hk c o (fun z => S.lr c z hc) e, S.pa.nt.keep fun c hc o e => hk c o (fun z => S.lt c z hc) e⟩, bad_left hbad, ⟨sm.a, sm.b, hlen, sm.r, sm.t, sm.z⟩⟩
  · refine ⟨{ m with right := rows' }, l, ls, r, xs', t, ts, ⟨hk q _ S.qr S.pa.ob, S.pa.nl.keep fun c hc o e => hk c o (fun z => S.lr c hc z) e, n, S.pa.nt.keep fun c hc o e => hk c o (fun z => S.rt c z hc) e⟩, bad_right hbad, ⟨sm.a, sm.b, sm.l, hlen, sm.t, sm.z⟩⟩
theorem Spo.outer (S : Spo b H G q m l ls r rs t ts) (k : Bool) {y : Addr} {ys : List Addr} {rows' : List (List Int)} (hk : ∀ c o, c ≠ q → G c = some o → G' c = some o) (hq : G' q = some (.lst ((psOf m l r t).set (sx k 2 3) (.ref y)))) (n : Nest G' y ys (vI rows')) (hbad : rowsOk rows' m.reads.length = false) (hlen : rows'.length ≤ 1000) : BadAt G' q := by
  have sm := S.g.small
  have kl := S.pa.nl.keep (H' := G') fun c hc o e => hk c o (fun z => S.ql (by rw [← z]; exact hc)) e
  have kr := S.pa.nr.keep (H' := G') fun c hc o e => hk c o (fun z => S.qr (by rw [← z]; exact hc)) e
  have kt := S.pa.nt.keep (H' := G') fun c hc o e => hk c o (fun z => S.qt (by rw [← z]; exact hc)) e
  cases k
  · exact ⟨{ m with left := rows' }, y, ys, r, rs, t, ts, ⟨hq, n, kr, kt⟩, bad_left hbad, ⟨sm.a, sm.b, hlen, sm.r, sm.t, sm.z⟩⟩
  · exact ⟨{ m with right := rows' }, l, ls, y, ys, t, ts, ⟨hq, kl, n, kt⟩, bad_right hbad, ⟨sm.a, sm.b, sm.l, hlen, sm.t, sm.z⟩⟩
theorem Spo.tin (S : Spo b H G q m l ls r rs t ts) {xs' : List Addr} {rows' : List (List Str)} (hk : ∀ c o, c ∉ t :: ts → G c = some o → G' c = some o) (n : Nest G' t xs' (vS rows')) (hbad : tableOk rows' m.left.length m.right.length m.reads.length m.writes = false) (hlen : rows'.length ≤ 1000)
    (hz : ∀ row, row ∈ rows' → ∀ z, z ∈ row → z.length ≤ 1000) : BadAt G' q := by
  have sm := S.g.small
  exact ⟨{ m with table := rows' }, l, ls, r, rs, t, xs', ⟨hk q _ S.qt S.pa.ob, S.pa.nl.keep fun c hc o e => hk c o (fun z => S.lt c hc z) e, S.pa.nr.keep fun c hc o e => hk c o (fun z => S.rt c hc z) e, n⟩, bad_table hbad, ⟨sm.a, sm.b, sm.l, sm.r, hlen, hz⟩⟩
theorem Spo.tout (S : Spo b H G q m l ls r rs t ts) {y : Addr} {ys : List Addr} {rows' : List (List Str)} (hk : ∀ c o, c ≠ q → G c = some o → G' c = some o) (hq : G' q = some (.lst ((psOf m l r t).set 4 (.ref y)))) (n : Nest G' y ys (vS rows'))
    (hbad : tableOk rows' m.left.length m.right.length m.reads.length m.writes = false) (hlen : rows'.length ≤ 1000) (hz : ∀ row, row ∈ rows' → ∀ z, z ∈ row → z.length ≤ 1000) : BadAt G' q := by
  have sm := S.g.small
  have kl := S.pa.nl.keep (H' := G') fun c hc o e => hk c o (fun z => S.ql (by rw [← z]; exact hc)) e
  have kr := S.pa.nr.keep (H' := G') fun c hc o e => hk c o (fun z => S.qr (by rw [← z]; exact hc)) e
  exact ⟨{ m with table := rows' }, l, ls, r, rs, y, ys, ⟨hq, kl, kr, n⟩, bad_table hbad, ⟨sm.a, sm.b, sm.l, sm.r, hlen, hz⟩⟩
theorem Spo.word (S : Spo b H G q m l ls r rs t ts) {x : Str} (hx : alphaOk x = false) (hl : x.length ≤ 1000) (i : Bool) : BadAt (upd G q (.lst ((psOf m l r t).set (sx i 0 1) (.str x)))) q := by
  have sm := S.g.small
  have kl := S.pa.nl.ne (o := .lst ((psOf m l r t).set (sx i 0 1) (.str x))) S.ql
  have kr := S.pa.nr.ne (o := .lst ((psOf m l r t).set (sx i 0 1) (.str x))) S.qr
  have kt := S.pa.nt.ne (o := .lst ((psOf m l r t).set (sx i 0 1) (.str x))) S.qt
  cases i
  · exact ⟨{ m with reads := x }, l, ls, r, rs, t, ts, ⟨upd_same, kl, kr, kt⟩, bad_reads hx, ⟨hl, sm.b, sm.l, sm.r, sm.t, sm.z⟩⟩
  · exact ⟨{ m with writes := x }, l, ls, r, rs, t, ts, ⟨upd_same, kl, kr, kt⟩, bad_writes hx, ⟨sm.a, hl, sm.l, sm.r, sm.t, sm.z⟩⟩
end
theorem keep_in {G : Hp} {a : Addr} {o : HO} {A : List Addr} (h : a ∈ A) : ∀ c u, c ∉ A → G c = some u → upd G a o c = some u := fun c u hc e => by
  rw [upd_ne (fun z => hc (by rw [z]; exact h))]
  exact e
theorem keep_ne {G : Hp} {a : Addr} {o : HO} : ∀ c u, c ≠ a → G c = some u → upd G a o c = some u := fun c u hc e => by
  rw [upd_ne hc]
  exact e
theorem vS_at {rows : List (List Str)} {i : Nat} {row : List Str} (h : rows[i]? = some row) : (vS rows)[i]? = some (row.map V.str) := by
  unfold vS
  rw [List.getElem?_map, h]
  rfl
theorem vI_at {rows : List (List Int)} {i : Nat} {row : List Int} (h : rows[i]? = some row) : (vI rows)[i]? = some (row.map V.int) := by
  unfold vI
  rw [List.getElem?_map, h]
  rfl
theorem vS_set (rows : List (List Str)) (i : Nat) (row : List Str) : (vS rows).set i (row.map V.str) = vS (rows.set i row) := by
  unfold vS
  rw [List.map_set]
theorem vI_set (rows : List (List Int)) (i : Nat) (row : List Int) : (vI rows).set i (row.map V.int) = vI (rows.set i row) := by
  unfold vI
  rw [List.map_set]
/-- a list of rows that another list has -/
theorem nest_from {G : Hp} {t n : Addr} {ts ts' : List Addr} {vss vss' : List (List V)} (N : Nest G t ts vss) (hn : G n = some (.lst (ts'.map V.ref))) (hl : ts'.length = vss'.length)
    (h : ∀ (i : Nat) (c : Addr) (ws : List V), ts'[i]? = some c → vss'[i]? = some ws → ∃ j : Nat, ts[j]? = some c ∧ vss[j]? = some ws) : Nest G n ts' vss' := ⟨hn, hl, fun i c ws h1 h2 => by
  obtain ⟨j, h3, h4⟩ := h i c ws h1 h2
  exact N.row j c ws h3 h4⟩
theorem ixN_at {n j : Nat} (h : j < n) : ixN n (j : Int) = some j := by
  unfold ixN
  rw [if_pos (by omega), if_pos (by omega)]
  simp
theorem ixN_last {n : Nat} (h : 1 ≤ n) : ixN n (-1) = some (n - 1) := by
  unfold ixN
  rw [if_neg (by decide), if_pos (by omega)]
  congr 1
  omega
theorem atI_end {α : Type} {xs : List α} {v : α} (h : 1 ≤ xs.length) (hv : xs[xs.length - 1]? = some v) : atI xs (-1) = some v := by
  unfold atI
  rw [ixN_last h]
  exact hv
theorem cutV1 (xs : List V) : cutV xs (some 1) none = xs.drop 1 := by
  cases xs with
  | nil => rfl
  | cons x r =>
    unfold cutV
    have e : HT.sIx (x :: r).length 0 (some 1) = 1 := by
      have := HT.sIx_nat (x :: r).length 0 1
      rw [show ((1 : Nat) : Int) = 1 from rfl] at this
      rw [this]
      simp
    rw [e, HT.sIx_none]
    simp
theorem cutS1_len {z : Str} (h : 1 ≤ z.length) : (cutS z (some 1) none).length + 1 = z.length := by
  show ((z.cps.toList.drop (HT.sIx z.length 0 (some 1))).take (HT.sIx z.length z.length none - HT.sIx z.length 0 (some 1))).toArray.size + 1 = z.length
  have e : HT.sIx z.length 0 (some 1) = 1 := by
    have := HT.sIx_nat z.length 0 1
    rw [show ((1 : Nat) : Int) = 1 from rfl] at this
    rw [this]
    omega
  have ez : z.length = z.cps.size := rfl
  rw [e, HT.sIx_none, List.size_toArray, List.length_take, List.length_drop, Array.length_toList]
  omega
theorem len_cat (x y : Str) : (x ++ y).length = x.length + y.length := Array.size_append
theorem q_in (y : Str) : (113 : Nat) ∈ (("q" : Str) ++ y).cps.toList := by
  have e : (("q" : Str) ++ y).cps.toList = ("q" : Str).cps.toList ++ y.cps.toList := Array.toList_append
  rw [e]
  exact List.mem_append.mpr (.inl (by decide +kernel))
end Fk
/-! _law_spoiled -/
namespace Fk
open PySem PySem.Spec PyProof.Rows L2
/-- [0 for letter in te] -/
def tZeros (te : TE) : TE := fun σ H Q => te σ H fun x H1 => ∃ (b : Addr) (z : Str), x = .str z ∧ z.length ≤ 1000 ∧ Box H1 b ∧
  ∀ (D : Addr) (row : List Int) (H' : Hp), Step b H1 H' → H1 D = none → H' D = some (.lst (row.map V.int)) → Q (.ref D) H'
theorem zeros_imp {te : TE} (m : Mono te) : ∀ σ H Q, tZeros te σ H Q → tLc (iStr te) (gName 7) tYes (tC (.int 0)) [7] σ H Q := fun σ H Q h =>
  m σ H _ _ (fun x H1 ⟨b, z, e, hz, hb, hk⟩ => ⟨z, e, vals_it (Q := Q) (n := z.cps.size) walk_str (fun v => ∃ i : Int, v = .int i ∧ True) hz hb (fun _ _ => True.intro)
    (fun i x G G1 _ s y => ⟨y.1, fun R hR => hR _ G ⟨0, rfl, True.intro⟩ Step.refl⟩)
    (fun D vs H' s hD hv _ hp => by
      obtain ⟨row, e, _⟩ := ints_of vs hp
      rw [e] at hv
      exact hk D row H' s hD hv)⟩) h
def spSpoil : Sp := fun vs H Q _ => ∃ (b p l r t : Addr) (ls rs ts : List Addr) (m : Parts), vs = [.ref b, .ref p] ∧ PartsAt H p m l ls r rs t ts ∧ Good m ∧ Box H b ∧ ∀ (q : Addr) (H' : Hp), Step b H H' → BadAt H' q → Q (.ref q) H'
section
variable {P : Program} {w : World} {K : PySem.W.Frag} {mg : Str → Option Value} {base : Heap}
theorem scSpoil : FnScope ["_law_box", "_law_m", "_law_parts", "_law_kind", "_law_side", "_law_at", "_law_row_here", "_law_letter"] ["_law_box", "_law_m"] (defScope sSpoil) := ⟨rfl, rfl, rfl, by decide +kernel, rfl, by decide +kernel, by decide +kernel⟩
theorem ok_spoil {f : Addr} {fd : FuncData} (F : Fun K "_law_spoiled" "_law_spoiled" sSpoil f fd) (T : Nm mg) (cD : Cal P w K mg base "_law_draw" CX0 1 ["_law_box", "_law_many"] spDraw) : FnOk P w K mg base CX0 2 f fd ["_law_box", "_law_m"] spSpoil := by
  obtain ⟨fD, fdD, DD, GD, bD⟩ := cD.ex
  refine F.ok scSpoil (fun vs H Q E h => ?_) (fun cdv A outer s H vs Q E hr h => ?_)
  · obtain ⟨b, p, l, r, t, ls, rs, ts, m, rfl, _⟩ := h
    rfl
  · obtain ⟨b, p, l0, r0, t0, ls0, rs0, ts0, m, rfl, pa, g, hb, k⟩ := h
    have sm := g.small
    have kl : ls0.length = m.left.length := by rw [pa.nl.len, vI_len]
    have kr : rs0.length = m.right.length := by rw [pa.nr.len, vI_len]
    have kt : ts0.length = m.table.length := by rw [pa.nt.len, vS_len]
    refine ⟨_, (pss_cons (ps_set (i := 2) scSpoil.nd rfl (Or.inl rfl) (pe_lst (pa_cons (pe_ix ix_list (pv 1) pe_int (fun _ _ => rfl)) (pa_cons (pe_ix ix_list (pv 1) pe_int (fun _ _ => rfl)) (pa_cons (pe_imp (pe_lc (own := [("_law_row_here", 6)]) (g := gName 6) (tt := tYes) rfl scSpoil.nd (pi_list (pe_ix ix_list (pv 1) pe_int (fun _ _ => rfl))) (blkOk_by (own := [("_law_row_here", 6)]) (N := ["_law_box", "_law_m", "_law_parts", "_law_kind", "_law_side", "_law_at", "_law_row_here", "_law_letter"]) (sc := defScope sSpoil) (by decide +kernel)) (fun _ _ _ _ _ => pg_name (i := 6) scSpoil.nd rfl (Or.inl rfl)) (fun _ _ _ _ _ => pts_nil) (fun _ _ _ _ _ => pe_callTy call_list_of (by rfl) T.list bt_list (pa_cons (pv 6) pa_nil))) (copy_imp (mono_ix mono_var mono_int))) (pa_cons (pe_imp (pe_lc (own := [("_law_row_here", 6)]) (g := gName 6) (tt := tYes) rfl scSpoil.nd (pi_list (pe_ix ix_list (pv 1) pe_int (fun _ _ => rfl))) (blkOk_by (own := [("_law_row_here", 6)]) (N := ["_law_box", "_law_m", "_law_parts", "_law_kind", "_law_side", "_law_at", "_law_row_here", "_law_letter"]) (sc := defScope sSpoil) (by decide +kernel)) (fun _ _ _ _ _ => pg_name (i := 6) scSpoil.nd rfl (Or.inl rfl)) (fun _ _ _ _ _ => pts_nil) (fun _ _ _ _ _ => pe_callTy call_list_of (by rfl) T.list bt_list (pa_cons (pv 6) pa_nil))) (copy_imp (mono_ix mono_var mono_int))) (pa_cons (pe_imp (pe_lc (own := [("_law_row_here", 6)]) (g := gName 6) (tt := tYes) rfl scSpoil.nd (pi_list (pe_ix ix_list (pv 1) pe_int (fun _ _ => rfl))) (blkOk_by (own := [("_law_row_here", 6)]) (N := ["_law_box", "_law_m", "_law_parts", "_law_kind", "_law_side", "_law_at", "_law_row_here", "_law_letter"]) (sc := defScope sSpoil) (by decide +kernel)) (fun _ _ _ _ _ => pg_name (i := 6) scSpoil.nd rfl (Or.inl rfl)) (fun _ _ _ _ _ => pts_nil) (fun _ _ _ _ _ => pe_callTy call_list_of (by rfl) T.list bt_list (pa_cons (pv 6) pa_nil))) (copy_imp (mono_ix mono_var mono_int))) pa_nil)))))))
      (pss_cons (ps_set (i := 3) scSpoil.nd rfl (Or.inl rfl) (pe_call GD hr (by rfl) DD.m DD.k bD .nil pass0 (pa_cons (pv 0) (pa_cons pe_int pa_nil))))
      (pss_cons (ps_set (i := 4) scSpoil.nd rfl (Or.inl rfl) (pe_op op_add pe_int (pe_call GD hr (by rfl) DD.m DD.k bD .nil pass0 (pa_cons (pv 0) (pa_cons pe_int pa_nil)))))
      (pss_cons (ps_set (i := 5) scSpoil.nd rfl (Or.inl rfl) (pe_call GD hr (by rfl) DD.m DD.k bD .nil pass0 (pa_cons (pv 0) (pa_cons (pe_callB call_len_seq (by rfl) T.len bt_len (pa_cons (pe_ix ix_list (pv 2) (pv 4) (fun _ _ => rfl)) pa_nil)) pa_nil))))
      (C8.pss_cut (ps_if (pt_cmpR op_eq (pv 3) pe_int (nomark _))
        (pss_one (ps_asg (pe_ix ix_list (pe_lst (pa_cons pe_str (pa_cons pe_str (pa_cons pe_str (pa_cons pe_str pa_nil))))) (pe_call GD hr (by rfl) DD.m DD.k bD .nil pass0 (pa_cons (pv 0) (pa_cons pe_int pa_nil))) (fun _ _ => rfl)) (pg_sub (pv 2) (pe_call GD hr (by rfl) DD.m DD.k bD .nil pass0 (pa_cons (pv 0) (pa_cons pe_int pa_nil))) set_list)))
        (pss_one (ps_if (pt_cmpR op_eq (pv 3) pe_int (nomark _))
        (pss_one (ps_asg (pe_ix ix_list (pe_lst (pa_cons (pe_callB call_len_seq (by rfl) T.len bt_len (pa_cons (pe_ix ix_list (pv 2) (pv 4) (fun _ _ => rfl)) pa_nil)) (pa_cons (pe_un un_neg pe_int) (pa_cons pe_int pa_nil)))) (pe_call GD hr (by rfl) DD.m DD.k bD .nil pass0 (pa_cons (pv 0) (pa_cons pe_int pa_nil))) (fun _ _ => rfl)) (pg_sub (pe_ix ix_list (pe_ix ix_list (pv 2) (pv 4) (fun _ _ => rfl)) (pv 5) (fun _ _ => rfl)) (pe_call GD hr (by rfl) DD.m DD.k bD .nil pass0 (pa_cons (pv 0) (pa_cons (pe_callB call_len_str (by rfl) T.len bt_len (pa_cons (pe_ix ix_list (pv 1) pe_int (fun _ _ => rfl)) pa_nil)) pa_nil))) set_list)))
        (pss_one (ps_if (pt_cmpR op_eq (pv 3) pe_int (nomark _))
        (pss_one (ps_asg (pe_slice sl_list (pe_ix ix_list (pe_ix ix_list (pv 2) (pv 4) (fun _ _ => rfl)) (pv 5) (fun _ _ => rfl)) (po_some pe_int) po_none) (pg_sub (pe_ix ix_list (pv 2) (pv 4) (fun _ _ => rfl)) (pv 5) set_list)))
        (pss_one (ps_if (pt_cmpR op_eq (pv 3) pe_int (nomark _))
        (pss_one (ps_asg (pe_op op_cat (pe_ix ix_list (pe_ix ix_list (pv 2) (pv 4) (fun _ _ => rfl)) (pv 5) (fun _ _ => rfl)) (pe_lst (pa_cons pe_int pa_nil))) (pg_sub (pe_ix ix_list (pv 2) (pv 4) (fun _ _ => rfl)) (pv 5) set_list)))
        (pss_one (ps_if (pt_cmpR op_eq (pv 3) pe_int (nomark _))
        (pss_one (ps_asg (pe_slice sl_str (pe_ix ix_list (pe_ix ix_list (pe_ix ix_list (pv 2) pe_int (fun _ _ => rfl)) pe_int (fun _ _ => rfl)) pe_int (fun _ _ => rfl)) (po_some pe_int) po_none) (pg_sub (pe_ix ix_list (pe_ix ix_list (pv 2) pe_int (fun _ _ => rfl)) pe_int (fun _ _ => rfl)) pe_int set_list)))
        (pss_one (ps_if (pt_cmpR op_eq (pv 3) pe_int (nomark _))
        (pss_one (ps_asg (pe_op op_add_str (pe_ix ix_list (pe_ix ix_list (pe_ix ix_list (pv 2) pe_int (fun _ _ => rfl)) (pe_un un_neg pe_int) (fun _ _ => rfl)) (pe_un un_neg pe_int) (fun _ _ => rfl)) (pe_ix ix_str (pe_ix ix_list (pv 1) pe_int (fun _ _ => rfl)) pe_int (fun _ _ => rfl))) (pg_sub (pe_ix ix_list (pe_ix ix_list (pv 2) pe_int (fun _ _ => rfl)) (pe_un un_neg pe_int) (fun _ _ => rfl)) (pe_un un_neg pe_int) set_list)))
        (pss_one (ps_if (pt_cmpR op_eq (pv 3) pe_int (nomark _))
        (pss_one (ps_asg (pe_op op_add_str pe_str (pe_slice sl_str (pe_ix ix_list (pe_ix ix_list (pe_ix ix_list (pv 2) pe_int (fun _ _ => rfl)) (pe_un un_neg pe_int) (fun _ _ => rfl)) pe_int (fun _ _ => rfl)) (po_some pe_int) po_none)) (pg_sub (pe_ix ix_list (pe_ix ix_list (pv 2) pe_int (fun _ _ => rfl)) (pe_un un_neg pe_int) (fun _ _ => rfl)) pe_int set_list)))
        (pss_one (ps_if (pt_cmpR op_eq (pv 3) pe_int (nomark _))
        (pss_one (ps_asg (pe_slice sl_list (pe_ix ix_list (pv 2) pe_int (fun _ _ => rfl)) (po_some pe_int) po_none) (pg_sub (pv 2) pe_int set_list)))
        (pss_one (ps_if (pt_cmpR op_eq (pv 3) pe_int (nomark _))
        (pss_one (ps_asg (pe_op op_cat (pe_ix ix_list (pe_ix ix_list (pv 2) pe_int (fun _ _ => rfl)) pe_int (fun _ _ => rfl)) (pe_lst (pa_cons (pe_ix ix_list (pe_ix ix_list (pe_ix ix_list (pv 2) pe_int (fun _ _ => rfl)) pe_int (fun _ _ => rfl)) pe_int (fun _ _ => rfl)) pa_nil))) (pg_sub (pe_ix ix_list (pv 2) pe_int (fun _ _ => rfl)) pe_int set_list)))
        (pss_one (ps_if (pt_cmpR op_eq (pv 3) pe_int (nomark _))
        (pss_one (ps_asg (pe_lst pa_nil) (pg_sub (pv 2) (pv 4) set_list)))
        (pss_one (ps_if (pt_cmpR op_eq (pv 3) pe_int (nomark _))
        (pss_one (ps_asg (pe_op op_rep (pe_lst (pa_cons (pe_imp (pe_lc (own := [("_law_letter", 7)]) (g := gName 7) (tt := tYes) rfl scSpoil.nd (pi_str (pe_ix ix_list (pv 1) pe_int (fun _ _ => rfl))) (blkOk_by (own := [("_law_letter", 7)]) (N := ["_law_box", "_law_m", "_law_parts", "_law_kind", "_law_side", "_law_at", "_law_row_here", "_law_letter"]) (sc := defScope sSpoil) (by decide +kernel)) (fun _ _ _ _ _ => pg_name (i := 7) scSpoil.nd rfl (Or.inl rfl)) (fun _ _ _ _ _ => pts_nil) (fun _ _ _ _ _ => pe_int)) (zeros_imp (mono_ix mono_var mono_int))) pa_nil)) pe_int) (pg_sub (pv 2) (pv 4) set_list)))
        (pss_one (ps_asg (pe_op op_cat (pe_ix ix_list (pv 2) pe_int (fun _ _ => rfl)) (pe_lst (pa_cons (pe_ix ix_list (pe_ix ix_list (pv 2) pe_int (fun _ _ => rfl)) pe_int (fun _ _ => rfl)) pa_nil))) (pg_sub (pv 2) pe_int set_list))))))))))))))))))))))))
      (pss_one (ps_ret (pv 2)))))))), ?_⟩
    refine ⟨_, rfl, p, _, 0, _, rfl, rfl, SqL.of pa.ob, rfl, _, rfl, p, _, 1, _, rfl, rfl, SqL.of pa.ob, rfl, _, rfl, p, _, 2, _, rfl, rfl, SqL.of pa.ob, rfl, l0, ls0, vI m.left, rfl, pa.nl, by rw [kl]; exact sm.l, (by show 6 < 8; decide), fun l ls H1 F1 N1 => ?_⟩
    refine ⟨_, rfl, p, _, 3, _, rfl, rfl, SqL.of (F1.same _ _ pa.ob), rfl, r0, rs0, vI m.right, rfl, pa.nr.same F1.same, by rw [kr]; exact sm.r, (by show 6 < 8; decide), fun r rs H2 F2 N2 => ?_⟩
    refine ⟨_, rfl, p, _, 4, _, rfl, rfl, SqL.of (F2.same _ _ (F1.same _ _ pa.ob)), rfl, t0, ts0, vS m.table, rfl, (pa.nt.same F1.same).same F2.same, by rw [kt]; exact sm.t, (by show 6 < 8; decide), fun t ts H3 F3 N3 => ?_⟩
    refine ⟨(by show 5 ≤ sizeLine; decide), fun q hq => ?_⟩
    have S3 : Same H H3 := (F1.same.trans F2.same).trans F3.same
    have M1 := (N1.same F2.same).same F3.same
    have M2 := N2.same F3.same
    have S0 : Spo b H (upd H3 q (.lst (psOf m l r t))) q m l ls r rs t ts := by
      refine ⟨(Step.of_same S3).new hb (S3.free hq), hb, ⟨upd_same, M1.ne (M1.off hq), M2.ne (M2.off hq), N3.ne (N3.off hq)⟩, g, S3.free hq, F1.new, fun c hc => F1.same.free (F2.new c hc), fun c hc => F1.same.free (F2.same.free (F3.new c hc)), F1.nd, F2.nd, F3.nd, fun c h1 h2 => ?_, fun c h1 h2 => ?_, fun c h1 h2 => ?_, M1.off hq, M2.off hq, N3.off hq⟩
      · exact N1.off (F2.new c h2) h1
      · exact (N1.same F2.same).off (F3.new c h2) h1
      · exact N2.off (F3.new c h2) h1
    -- the draws
    refine ⟨_, rfl, b, 12, rfl, by decide, S0.box, fun kd G1 _ _ s1 => ?_⟩
    have S1 := S0.step s1
    refine ⟨_, rfl, b, 2, rfl, by decide, S1.box, fun d G2 d0 d2 s2 => ⟨_, _, rfl, rfl, ?_⟩⟩
    have S2 := S1.step s2
    obtain ⟨kb, hkb⟩ : ∃ kb : Bool, 2 + d = (sx kb 2 3 : Int) := by
      by_cases c : d = 0
      · exact ⟨false, by rw [c]; rfl⟩
      · exact ⟨true, by show 2 + d = 3; omega⟩
    show gName 4 (V.int (2 + d)) _ _ _
    rw [hkb]
    have sl := S2.slen kb
    have sl1 : (sx kb ls rs).length = (sx kb m.left m.right).length := by rw [(S2.sn kb).len, vI_len]
    refine ⟨_, rfl, _, rfl, _, rfl, q, _, _, _, rfl, rfl, SqL.of S2.pa.ob, S2.ix kb, _, _, rfl, .inl (SqL.of (S2.sn kb).lst), b, _, rfl, by rw [List.length_map]; omega, S2.box, fun a G3 a0 a1 s3 => ?_⟩
    have S := S2.step s3
    rw [List.length_map] at a1
    obtain ⟨a, rfl⟩ : ∃ j : Nat, a = (j : Int) := ⟨a.toNat, by omega⟩
    have ha : a < (sx kb m.left m.right).length := by omega
    have hax : a < (sx kb ls rs).length := by omega
    obtain ⟨row, hrow⟩ : ∃ row, (sx kb m.left m.right)[a]? = some row := ⟨_, List.getElem?_eq_getElem ha⟩
    have hrl := S.srow kb row (List.mem_of_getElem? hrow)
    obtain ⟨ra, hra, _⟩ := (S.sn kb).get (vI_at hrow)
    have hram : ra ∈ sx kb l r :: sx kb ls rs := List.mem_cons_of_mem _ (List.mem_of_getElem? hra)
    have hxm : sx kb l r ∈ sx kb l r :: sx kb ls rs := List.mem_cons_self
    have hatx : atI ((sx kb ls rs).map V.ref) (a : Int) = some (.ref ra) := atI_nat (by rw [List.getElem?_map, hra]; rfl)
    obtain ⟨i1, i4⟩ := alpha_len g.ins
    obtain ⟨o1, o4⟩ := alpha_len g.outs
    -- the table
    have tl1 := g.tlen
    have l1 := g.l1
    have l6 := g.l6
    have r1 := g.r1
    have r6 := g.r6
    have tsl : ts.length = m.table.length := by rw [S.pa.nt.len, vS_len]
    refine ⟨fun σ G => σ = [some (.ref b), some (.ref p), some (.ref q), some (.int kd), some (.int (sx kb 2 3)), some (.int (a : Int)), none, none] ∧ Step b H G ∧ BadAt G q, ?_, ?_⟩
    rotate_left
    · rintro σ G ⟨rfl, s', hbad⟩
      exact ⟨_, rfl, k q G s' hbad⟩
    refine ⟨_, rfl, rfl, _, rfl, ite2 (fun _ => ?_) (fun _ => ?_)⟩
    · -- 0
      refine ⟨(by show 4 ≤ sizeLine; decide), fun n hn => ?_⟩
      have Sa := S.new (o := .lst [.str "", .str "aa", .str "A", .str "abcdef"]) hn
      refine ⟨_, rfl, b, 4, rfl, by decide, Sa.box, fun d4 G4 d40 d44 s4 => ?_⟩
      obtain ⟨j, rfl⟩ : ∃ j : Nat, d4 = (j : Int) := ⟨d4.toNat, by omega⟩
      have hj : j < (["", "aa", "A", "abcdef"] : List Str).length := by show j < 4; omega
      obtain ⟨z, hz⟩ : ∃ z, (["", "aa", "A", "abcdef"] : List Str)[j]? = some z := ⟨_, List.getElem?_eq_getElem hj⟩
      have hzb : alphaOk z = false := by
        have e := List.all_eq_true.mp bad_words z (List.mem_of_getElem? hz)
        cases e2 : alphaOk z with
        | false => rfl
        | true =>
          rw [e2] at e
          cases e
      have hzl : z.length ≤ 1000 := of_decide_eq_true (List.all_eq_true.mp (show (["", "aa", "A", "abcdef"] : List Str).all (fun z => decide (z.length ≤ 1000)) = true by decide +kernel) z (List.mem_of_getElem? hz))
      have hn4 : G4 n = some (.lst ((["", "aa", "A", "abcdef"] : List Str).map V.str)) := s4.k _ _ (S.box.ne hn) upd_same
      refine ⟨n, _, (j : Int), .str z, rfl, rfl, SqL.of hn4, atI_nat (by rw [List.getElem?_map, hz]; rfl), ?_⟩
      have Sb := Sa.step s4
      refine ⟨_, rfl, _, rfl, b, 2, rfl, by decide, Sb.box, fun e G5 e0 e2 s5 => ?_⟩
      have Sc := Sb.step s5
      obtain ⟨i, rfl⟩ : ∃ i : Bool, e = (sx i 0 1 : Int) := by
        by_cases c : e = 0
        · exact ⟨false, by rw [c]; rfl⟩
        · exact ⟨true, by show e = 1; omega⟩
      refine ⟨q, _, _, (sx i 0 1 : Nat), rfl, rfl, Sc.pa.ob, by cases i <;> rfl, ?_⟩
      exact ⟨rfl, Sc.s.new hb Sc.nq, Sc.word hzb hzl i⟩
    refine ⟨_, rfl, rfl, _, rfl, ite2 (fun _ => ?_) (fun _ => ?_)⟩
    · -- 1
      refine ⟨_, rfl, _, rfl, q, _, _, _, rfl, rfl, SqL.of S.pa.ob, S.ix kb, _, _, rfl, .inl (SqL.of (S.sn kb).lst), _, rfl, (by show 3 ≤ sizeLine; decide), fun n hn => ?_⟩
      have Sa := S.new (o := .lst [.int (((sx kb ls rs).map V.ref).length : Int), .int (-1), .int 99]) hn
      refine ⟨_, rfl, b, 3, rfl, by decide, Sa.box, fun d4 G4 d40 d44 s4 => ?_⟩
      obtain ⟨j, rfl⟩ : ∃ j : Nat, d4 = (j : Int) := ⟨d4.toNat, by omega⟩
      have hj : j < ([(((sx kb ls rs).map V.ref).length : Int), -1, 99] : List Int).length := by show j < 3; omega
      obtain ⟨v, hv⟩ : ∃ v, ([(((sx kb ls rs).map V.ref).length : Int), -1, 99] : List Int)[j]? = some v := ⟨_, List.getElem?_eq_getElem hj⟩
      have hvb : ¬ (0 ≤ v ∧ v < ((sx kb m.left m.right).length : Int)) := by
        have hm := List.mem_of_getElem? hv
        rw [List.length_map] at hm
        rcases List.mem_cons.mp hm with z | hm
        · omega
        rcases List.mem_cons.mp hm with z | hm
        · omega
        rcases List.mem_cons.mp hm with z | hm
        · omega
        cases hm
      have hn4 : G4 n = some (.lst (([(((sx kb ls rs).map V.ref).length : Int), -1, 99] : List Int).map V.int)) := s4.k _ _ (S.box.ne hn) upd_same
      refine ⟨n, _, (j : Int), .int v, rfl, rfl, SqL.of hn4, atI_nat (by rw [List.getElem?_map, hv]; rfl), ?_⟩
      have Sb := Sa.step s4
      refine ⟨_, rfl, _, rfl, q, _, _, _, rfl, rfl, SqL.of Sb.pa.ob, Sb.ix kb, _, rfl, _, _, _, _, rfl, rfl, SqL.of (Sb.sn kb).lst, hatx, ?_⟩
      refine ⟨_, rfl, _, rfl, p, _, 0, _, rfl, rfl, SqL.of (pa.step hb Sb.s).ob, rfl, m.reads, rfl, sz_le (by omega), b, _, rfl, by omega, Sb.box, fun e G5 e0 e2 s5 => ?_⟩
      have Sc := Sb.step s5
      obtain ⟨u, rfl⟩ : ∃ j : Nat, e = (j : Int) := ⟨e.toNat, by omega⟩
      have hu : u < row.length := by omega
      refine ⟨ra, _, (u : Int), u, rfl, rfl, (Sc.sn kb).row a ra _ hra (vI_at hrow), ixN_at (by rw [List.length_map]; exact hu), ?_⟩
      refine ⟨rfl, Sc.s.new hb (Sc.snew kb ra hram), Sc.inner kb (keep_in hram) (by
        have N := (Sc.sn kb).set (vs := (row.set u v).map V.int) (Sc.sd kb) hra
        rw [vI_set] at N
        rw [← List.map_set]
        exact N) (rows_set ha (row_state hu hvb)) (by rw [List.length_set]; omega)⟩
    refine ⟨_, rfl, rfl, _, rfl, ite2 (fun _ => ?_) (fun _ => ?_)⟩
    · -- 2
      refine ⟨_, rfl, _, rfl, q, _, _, _, rfl, rfl, SqL.of S.pa.ob, S.ix kb, _, rfl, _, _, _, _, rfl, rfl, SqL.of (S.sn kb).lst, hatx, 1, rfl, ra, _, rfl, SqL.of ((S.sn kb).row a ra _ hra (vI_at hrow)), fun n hn => ?_⟩
      have Sb := S.new (o := .lst (cutV (row.map V.int) (some 1) none)) hn
      refine ⟨_, rfl, _, rfl, q, _, _, _, rfl, rfl, SqL.of Sb.pa.ob, Sb.ix kb, _, rfl, _, _, _, a, rfl, rfl, (Sb.sn kb).lst, ixN_at (by rw [List.length_map]; exact hax), ?_⟩
      have hnx : n ≠ sx kb l r := fun z => by
        rw [z, (S.sn kb).lst] at hn
        cases hn
      refine ⟨rfl, Sb.s.new hb (Sb.snew kb _ hxm), Sb.inner kb (keep_in hxm) (rows' := (sx kb m.left m.right).set a (row.drop 1)) (by
        have N := (Sb.sn kb).put (i := a) (q := n) (vs := (row.drop 1).map V.int) hax (List.nodup_cons.mp (Sb.sd kb)).1 hnx (by rw [upd_same, cutV1, List.map_drop])
        rw [vI_set] at N
        exact N) (rows_set ha (row_len (by rw [List.length_drop]; omega))) (by rw [List.length_set]; omega)⟩
    refine ⟨_, rfl, rfl, _, rfl, ite2 (fun _ => ?_) (fun _ => ?_)⟩
    · -- 3
      refine ⟨_, rfl, _, rfl, q, _, _, _, rfl, rfl, SqL.of S.pa.ob, S.ix kb, _, rfl, _, _, _, _, rfl, rfl, SqL.of (S.sn kb).lst, hatx, (by show 1 ≤ sizeLine; decide), fun n1 hn1 => ?_⟩
      have Sa := S.new (o := .lst [.int 0]) hn1
      refine ⟨ra, n1, _, _, rfl, rfl, (Sa.sn kb).row a ra _ hra (vI_at hrow), upd_same, (by rw [List.length_map, hrl]; exact sz_le (by show m.reads.length + 1 ≤ 1000; omega)), fun n hn => ?_⟩
      have Sb := Sa.new (o := .lst (row.map V.int ++ [.int 0])) hn
      refine ⟨_, rfl, _, rfl, q, _, _, _, rfl, rfl, SqL.of Sb.pa.ob, Sb.ix kb, _, rfl, _, _, _, a, rfl, rfl, (Sb.sn kb).lst, ixN_at (by rw [List.length_map]; exact hax), ?_⟩
      have hnx : n ≠ sx kb l r := fun z => by
        rw [z, (Sa.sn kb).lst] at hn
        cases hn
      refine ⟨rfl, Sb.s.new hb (Sb.snew kb _ hxm), Sb.inner kb (keep_in hxm) (rows' := (sx kb m.left m.right).set a (row ++ [0])) (by
        have N := (Sb.sn kb).put (i := a) (q := n) (vs := (row ++ [0]).map V.int) hax (List.nodup_cons.mp (Sb.sd kb)).1 hnx (by rw [upd_same, List.map_append]; rfl)
        rw [vI_set] at N
        exact N) (rows_set ha (row_len (by rw [List.length_append, hrl]; show m.reads.length + 1 ≠ _; omega))) (by rw [List.length_set]; omega)⟩
    refine ⟨_, rfl, rfl, _, rfl, ite2 (fun _ => ?_) (fun _ => ?_)⟩
    · -- 4
      obtain ⟨trow, htr⟩ : ∃ x, m.table[0]? = some x := ⟨_, List.getElem?_eq_getElem (by omega)⟩
      obtain ⟨tra, htra, _⟩ := S.pa.nt.get (vS_at htr)
      have hati : atI (ts.map V.ref) 0 = some (.ref tra) := atI_nat (j := 0) (by rw [List.getElem?_map, htra]; rfl)
      have htg := g.trow trow (List.mem_of_getElem? htr)
      have htra' : tra ∈ t :: ts := List.mem_cons_of_mem _ (List.mem_of_getElem? htra)
      obtain ⟨z, hz⟩ : ∃ x, trow[0]? = some x := ⟨_, List.getElem?_eq_getElem (by omega)⟩
      have hzg := htg.2 z (List.mem_of_getElem? hz)
      have hatj : atI (trow.map V.str) 0 = some (.str z) := atI_nat (j := 0) (by rw [List.getElem?_map, hz]; rfl)
      have hixj : ixN (trow.map V.str).length 0 = some 0 := ixN_at (j := 0) (by rw [List.length_map]; omega)
      have hc1 := cutS1_len (z := z) (by omega)
      refine ⟨_, rfl, q, _, 4, _, rfl, rfl, SqL.of S.pa.ob, rfl, t, _, 0, _, rfl, rfl, SqL.of S.pa.nt.lst, hati, tra, _, 0, _, rfl, rfl, SqL.of (S.pa.nt.row _ tra _ htra (vS_at htr)), hatj, 1, rfl, z, rfl, sz_le (by omega), ?_⟩
      refine ⟨_, rfl, q, _, 4, _, rfl, rfl, SqL.of S.pa.ob, rfl, t, _, 0, _, rfl, rfl, SqL.of S.pa.nt.lst, hati, tra, _, 0, 0, rfl, rfl, S.pa.nt.row _ tra _ htra (vS_at htr), hixj, ?_⟩
      have hJ : 0 < trow.length := by omega
      have hI : 0 < m.table.length := by omega
      refine ⟨rfl, S.s.new hb (S.nt tra htra'), S.tin (keep_in htra') (rows' := m.table.set 0 (trow.set 0 (cutS z (some 1) none))) (by
        have N := S.pa.nt.set (vs := (trow.set 0 (cutS z (some 1) none)).map V.str) S.dt htra
        rw [vS_set] at N
        rw [← List.map_set]
        exact N) (table_row (i := 0) (List.getElem?_set_self hI) (trow_told (j := 0) (List.getElem?_set_self hJ) (told_len (by omega)))) (by rw [List.length_set]; omega) (fun row' hr' z' hz' => ?_)⟩
      rcases List.mem_or_eq_of_mem_set hr' with e1 | e1
      · exact sm.z row' e1 z' hz'
      · rw [e1] at hz'
        rcases List.mem_or_eq_of_mem_set hz' with e2 | e2
        · exact sm.z trow (List.mem_of_getElem? htr) z' e2
        · rw [e2]
          omega
    refine ⟨_, rfl, rfl, _, rfl, ite2 (fun _ => ?_) (fun _ => ?_)⟩
    · -- 5
      obtain ⟨trow, htr⟩ : ∃ x, m.table[m.table.length - 1]? = some x := ⟨_, List.getElem?_eq_getElem (by omega)⟩
      obtain ⟨tra, htra, _⟩ := S.pa.nt.get (vS_at htr)
      have hati : atI (ts.map V.ref) (-1) = some (.ref tra) := atI_end (by rw [List.length_map]; omega) (by rw [List.length_map, tsl, List.getElem?_map, htra]; rfl)
      have htg := g.trow trow (List.mem_of_getElem? htr)
      have htra' : tra ∈ t :: ts := List.mem_cons_of_mem _ (List.mem_of_getElem? htra)
      obtain ⟨z, hz⟩ : ∃ x, trow[trow.length - 1]? = some x := ⟨_, List.getElem?_eq_getElem (by omega)⟩
      have hzg := htg.2 z (List.mem_of_getElem? hz)
      have hatj : atI (trow.map V.str) (-1) = some (.str z) := atI_end (by rw [List.length_map]; omega) (by rw [List.length_map, List.getElem?_map, hz]; rfl)
      have hixj : ixN (trow.map V.str).length (-1) = some (trow.length - 1) := by
        rw [List.length_map]
        exact ixN_last (by omega)
      obtain ⟨c, hc⟩ : ∃ c, m.writes.cps.toList[0]? = some c := ⟨_, List.getElem?_eq_getElem (by rw [Array.length_toList]; exact o1)⟩
      have hcl : (z ++ (⟨#[c]⟩ : Str)).length = z.length + 1 := len_cat z ⟨#[c]⟩
      refine ⟨_, rfl, q, _, 4, _, rfl, rfl, SqL.of S.pa.ob, rfl, 1, rfl, t, _, -1, _, rfl, rfl, SqL.of S.pa.nt.lst, hati, 1, rfl, tra, _, -1, _, rfl, rfl, SqL.of (S.pa.nt.row _ tra _ htra (vS_at htr)), hatj, _, rfl, p, _, 1, _, rfl, rfl, SqL.of (pa.step hb S.s).ob, rfl, m.writes, 0, c, rfl, rfl, sz_le (by omega), atI_nat (j := 0) hc, z, ⟨#[c]⟩, rfl, rfl, sz_le (by show z.length + 1 ≤ 1000; omega), ?_⟩
      refine ⟨_, rfl, q, _, 4, _, rfl, rfl, SqL.of S.pa.ob, rfl, 1, rfl, t, _, -1, _, rfl, rfl, SqL.of S.pa.nt.lst, hati, 1, rfl, tra, _, -1, (trow.length - 1), rfl, rfl, S.pa.nt.row _ tra _ htra (vS_at htr), hixj, ?_⟩
      have hJ : (trow.length - 1) < trow.length := by omega
      have hI : (m.table.length - 1) < m.table.length := by omega
      refine ⟨rfl, S.s.new hb (S.nt tra htra'), S.tin (keep_in htra') (rows' := m.table.set (m.table.length - 1) (trow.set (trow.length - 1) (z ++ (⟨#[c]⟩ : Str)))) (by
        have N := S.pa.nt.set (vs := (trow.set (trow.length - 1) (z ++ (⟨#[c]⟩ : Str))).map V.str) S.dt htra
        rw [vS_set] at N
        rw [← List.map_set]
        exact N) (table_row (i := (m.table.length - 1)) (List.getElem?_set_self hI) (trow_told (j := (trow.length - 1)) (List.getElem?_set_self hJ) (told_len (by omega)))) (by rw [List.length_set]; omega) (fun row' hr' z' hz' => ?_)⟩
      rcases List.mem_or_eq_of_mem_set hr' with e1 | e1
      · exact sm.z row' e1 z' hz'
      · rw [e1] at hz'
        rcases List.mem_or_eq_of_mem_set hz' with e2 | e2
        · exact sm.z trow (List.mem_of_getElem? htr) z' e2
        · rw [e2]
          omega
    refine ⟨_, rfl, rfl, _, rfl, ite2 (fun _ => ?_) (fun _ => ?_)⟩
    · -- 6
      obtain ⟨trow, htr⟩ : ∃ x, m.table[m.table.length - 1]? = some x := ⟨_, List.getElem?_eq_getElem (by omega)⟩
      obtain ⟨tra, htra, _⟩ := S.pa.nt.get (vS_at htr)
      have hati : atI (ts.map V.ref) (-1) = some (.ref tra) := atI_end (by rw [List.length_map]; omega) (by rw [List.length_map, tsl, List.getElem?_map, htra]; rfl)
      have htg := g.trow trow (List.mem_of_getElem? htr)
      have htra' : tra ∈ t :: ts := List.mem_cons_of_mem _ (List.mem_of_getElem? htra)
      obtain ⟨z, hz⟩ : ∃ x, trow[0]? = some x := ⟨_, List.getElem?_eq_getElem (by omega)⟩
      have hzg := htg.2 z (List.mem_of_getElem? hz)
      have hatj : atI (trow.map V.str) 0 = some (.str z) := atI_nat (j := 0) (by rw [List.getElem?_map, hz]; rfl)
      have hixj : ixN (trow.map V.str).length 0 = some 0 := ixN_at (j := 0) (by rw [List.length_map]; omega)
      have hc1 := cutS1_len (z := z) (by omega)
      have hcl : (("q" : Str) ++ cutS z (some 1) none).length = 1 + (cutS z (some 1) none).length := len_cat _ _
      refine ⟨_, rfl, q, _, 4, _, rfl, rfl, SqL.of S.pa.ob, rfl, 1, rfl, t, _, -1, _, rfl, rfl, SqL.of S.pa.nt.lst, hati, tra, _, 0, _, rfl, rfl, SqL.of (S.pa.nt.row _ tra _ htra (vS_at htr)), hatj, 1, rfl, z, rfl, sz_le (by omega), "q", cutS z (some 1) none, rfl, rfl, sz_le (by show 1 + _ ≤ 1000; omega), ?_⟩
      refine ⟨_, rfl, q, _, 4, _, rfl, rfl, SqL.of S.pa.ob, rfl, 1, rfl, t, _, -1, _, rfl, rfl, SqL.of S.pa.nt.lst, hati, tra, _, 0, 0, rfl, rfl, S.pa.nt.row _ tra _ htra (vS_at htr), hixj, ?_⟩
      have hJ : 0 < trow.length := by omega
      have hI : (m.table.length - 1) < m.table.length := by omega
      refine ⟨rfl, S.s.new hb (S.nt tra htra'), S.tin (keep_in htra') (rows' := m.table.set (m.table.length - 1) (trow.set 0 (("q" : Str) ++ cutS z (some 1) none))) (by
        have N := S.pa.nt.set (vs := (trow.set 0 (("q" : Str) ++ cutS z (some 1) none)).map V.str) S.dt htra
        rw [vS_set] at N
        rw [← List.map_set]
        exact N) (table_row (i := (m.table.length - 1)) (List.getElem?_set_self hI) (trow_told (j := 0) (List.getElem?_set_self hJ) (told_sign (q_in _) (alpha_q g.outs)))) (by rw [List.length_set]; omega) (fun row' hr' z' hz' => ?_)⟩
      rcases List.mem_or_eq_of_mem_set hr' with e1 | e1
      · exact sm.z row' e1 z' hz'
      · rw [e1] at hz'
        rcases List.mem_or_eq_of_mem_set hz' with e2 | e2
        · exact sm.z trow (List.mem_of_getElem? htr) z' e2
        · rw [e2]
          omega
    refine ⟨_, rfl, rfl, _, rfl, ite2 (fun _ => ?_) (fun _ => ?_)⟩
    · -- 7
      refine ⟨_, rfl, q, _, 4, _, rfl, rfl, SqL.of S.pa.ob, rfl, 1, rfl, t, _, rfl, SqL.of S.pa.nt.lst, fun n hn => ?_⟩
      have Sb := S.new (o := .lst (cutV (ts.map V.ref) (some 1) none)) hn
      have hnq : n ≠ q := fun z => by
        rw [z, S.pa.ob] at hn
        cases hn
      refine ⟨_, rfl, q, _, 4, 4, rfl, rfl, Sb.pa.ob, rfl, ?_⟩
      refine ⟨rfl, Sb.s.new hb Sb.nq, Sb.tout (y := n) (ys := ts.drop 1) (rows' := m.table.drop 1) keep_ne upd_same (nest_from (Sb.pa.nt.ne Sb.qt) (by rw [upd_ne hnq, upd_same, cutV1, List.map_drop]) (by rw [vS_len, List.length_drop, List.length_drop, tsl]) (fun i c ws h1 h2 => ⟨1 + i, ?_, ?_⟩)) (table_len (by rw [List.length_drop]; omega)) (by rw [List.length_drop]; omega) (fun row' hr' => sm.z row' (List.mem_of_mem_drop hr'))⟩
      · rw [← List.getElem?_drop]
        exact h1
      · rw [← List.getElem?_drop]
        unfold vS at h2 ⊢
        rw [List.map_drop] at h2
        exact h2
    refine ⟨_, rfl, rfl, _, rfl, ite2 (fun _ => ?_) (fun _ => ?_)⟩
    · -- 8
      obtain ⟨trow, htr⟩ : ∃ x, m.table[0]? = some x := ⟨_, List.getElem?_eq_getElem (by omega)⟩
      obtain ⟨tra, htra, _⟩ := S.pa.nt.get (vS_at htr)
      have hati : atI (ts.map V.ref) 0 = some (.ref tra) := atI_nat (j := 0) (by rw [List.getElem?_map, htra]; rfl)
      have htg := g.trow trow (List.mem_of_getElem? htr)
      have htra' : tra ∈ t :: ts := List.mem_cons_of_mem _ (List.mem_of_getElem? htra)
      obtain ⟨z, hz⟩ : ∃ x, trow[0]? = some x := ⟨_, List.getElem?_eq_getElem (by omega)⟩
      have hzg := htg.2 z (List.mem_of_getElem? hz)
      have hatj : atI (trow.map V.str) 0 = some (.str z) := atI_nat (j := 0) (by rw [List.getElem?_map, hz]; rfl)
      have hixj : ixN (trow.map V.str).length 0 = some 0 := ixN_at (j := 0) (by rw [List.length_map]; omega)
      refine ⟨_, rfl, q, _, 4, _, rfl, rfl, SqL.of S.pa.ob, rfl, t, _, 0, _, rfl, rfl, SqL.of S.pa.nt.lst, hati, _, rfl, q, _, 4, _, rfl, rfl, SqL.of S.pa.ob, rfl, t, _, 0, _, rfl, rfl, SqL.of S.pa.nt.lst, hati, tra, _, 0, _, rfl, rfl, SqL.of (S.pa.nt.row _ tra _ htra (vS_at htr)), hatj, (by show 1 ≤ sizeLine; decide), fun n1 hn1 => ?_⟩
      have Sa := S.new (o := .lst [.str z]) hn1
      refine ⟨tra, n1, _, _, rfl, rfl, Sa.pa.nt.row _ tra _ htra (vS_at htr), upd_same, (by rw [List.length_map, htg.1]; exact sz_le (by show m.right.length + 1 ≤ 1000; omega)), fun n hn => ?_⟩
      have Sb := Sa.new (o := .lst (trow.map V.str ++ [.str z])) hn
      have hnt : n ≠ t := fun z => by
        rw [z, Sa.pa.nt.lst] at hn
        cases hn
      refine ⟨_, rfl, q, _, 4, _, rfl, rfl, SqL.of Sb.pa.ob, rfl, t, _, 0, 0, rfl, rfl, Sb.pa.nt.lst, ixN_at (j := 0) (by rw [List.length_map]; omega), ?_⟩
      have hI : 0 < m.table.length := by omega
      have htm : t ∈ t :: ts := List.mem_cons_self
      refine ⟨rfl, Sb.s.new hb (Sb.nt t htm), Sb.tin (keep_in htm) (rows' := m.table.set 0 (trow ++ [z])) (by
        have N := Sb.pa.nt.put (i := 0) (q := n) (vs := (trow ++ [z]).map V.str) (by omega) (List.nodup_cons.mp Sb.dt).1 hnt (by rw [upd_same, List.map_append]; rfl)
        rw [vS_set] at N
        exact N) (table_row (i := 0) (List.getElem?_set_self hI) (trow_len (by rw [List.length_append, htg.1]; show m.right.length + 1 ≠ _; omega))) (by rw [List.length_set]; omega) (fun row' hr' z' hz' => ?_)⟩
      rcases List.mem_or_eq_of_mem_set hr' with e1 | e1
      · exact sm.z row' e1 z' hz'
      · rw [e1] at hz'
        rcases List.mem_append.mp hz' with e2 | e2
        · exact sm.z trow (List.mem_of_getElem? htr) z' e2
        · rw [List.mem_singleton.mp e2]
          omega
    refine ⟨_, rfl, rfl, _, rfl, ite2 (fun _ => ?_) (fun _ => ?_)⟩
    · -- 9
      refine ⟨(by show 0 ≤ sizeLine; decide), fun n hn => ?_⟩
      have Sb := S.new (o := .lst []) hn
      have hnq : n ≠ q := fun z => by
        rw [z, S.pa.ob] at hn
        cases hn
      refine ⟨_, rfl, _, rfl, q, _, _, sx kb 2 3, rfl, rfl, Sb.pa.ob, (by cases kb <;> rfl), ?_⟩
      exact ⟨rfl, Sb.s.new hb Sb.nq, Sb.outer kb (y := n) (ys := []) (rows' := []) keep_ne upd_same ⟨by rw [upd_ne hnq, upd_same]; rfl, rfl, fun i c ws h1 _ => by simp at h1⟩ (rows_empty _) (by decide)⟩
    refine ⟨_, rfl, rfl, _, rfl, ite2 (fun _ => ?_) (fun _ => ?_)⟩
    · -- 10
      refine ⟨_, rfl, p, _, 0, _, rfl, rfl, SqL.of (pa.step hb S.s).ob, rfl, b, m.reads, rfl, by omega, S.box, fun D zr G4 s4 hD hD4 => ⟨(by show 1 ≤ sizeLine; decide), fun n1 hn1 => ?_⟩⟩
      have Sa := S.step s4
      have Sc := Sa.new (o := .lst [.ref D]) hn1
      have hDn : D ≠ n1 := fun z => by
        rw [← z, hD4] at hn1
        cases hn1
      have hD5 : (upd G4 n1 (.lst [.ref D])) D = some (.lst (zr.map V.int)) := by rw [upd_ne hDn]; exact hD4
      refine ⟨n1, 41, _, rfl, rfl, upd_same, by decide, by decide, (by show 41 ≤ sizeLine; decide), fun n hn => ?_⟩
      have Sb := Sc.new (o := .lst (List.replicate (41 : Int).toNat [V.ref D]).flatten) hn
      have hDm : D ≠ n := fun z => by
        rw [← z, hD5] at hn
        cases hn
      have hnq : n ≠ q := fun z => by
        rw [z, Sc.pa.ob] at hn
        cases hn
      have hDq : D ≠ q := fun z => by
        rw [z, S.pa.ob] at hD
        cases hD
      refine ⟨_, rfl, _, rfl, q, _, _, sx kb 2 3, rfl, rfl, Sb.pa.ob, (by cases kb <;> rfl), ?_⟩
      refine ⟨rfl, Sb.s.new hb Sb.nq, Sb.outer kb (y := n) (ys := List.replicate 41 D) (rows' := List.replicate 41 zr) keep_ne upd_same ⟨by rw [upd_ne hnq, upd_same]; rfl, by rw [vI_len, List.length_replicate, List.length_replicate], fun i c ws h1 h2 => ?_⟩ (rows_many (by rw [List.length_replicate]; decide)) (by rw [List.length_replicate]; decide)⟩
      have e1 := (List.mem_replicate.mp (List.mem_of_getElem? h1)).2
      obtain ⟨row', h3, e3⟩ := vI_get h2
      have e2 := (List.mem_replicate.mp (List.mem_of_getElem? h3)).2
      rw [e1, e3, e2, upd_ne hDq, upd_ne hDm]
      exact hD5
    · -- 11
      obtain ⟨trow, htr⟩ : ∃ x, m.table[0]? = some x := ⟨_, List.getElem?_eq_getElem (by omega)⟩
      obtain ⟨tra, htra, _⟩ := S.pa.nt.get (vS_at htr)
      have hati : atI (ts.map V.ref) 0 = some (.ref tra) := atI_nat (j := 0) (by rw [List.getElem?_map, htra]; rfl)
      refine ⟨_, rfl, q, _, 4, _, rfl, rfl, SqL.of S.pa.ob, rfl, _, rfl, q, _, 4, _, rfl, rfl, SqL.of S.pa.ob, rfl, t, _, 0, _, rfl, rfl, SqL.of S.pa.nt.lst, hati, (by show 1 ≤ sizeLine; decide), fun n1 hn1 => ?_⟩
      have Sa := S.new (o := .lst [.ref tra]) hn1
      refine ⟨t, n1, _, _, rfl, rfl, Sa.pa.nt.lst, upd_same, (by rw [List.length_map]; exact sz_le (by show ts.length + 1 ≤ 1000; omega)), fun n hn => ?_⟩
      have Sb := Sa.new (o := .lst (ts.map V.ref ++ [.ref tra])) hn
      have hnq : n ≠ q := fun z => by
        rw [z, Sa.pa.ob] at hn
        cases hn
      refine ⟨_, rfl, q, _, 4, 4, rfl, rfl, Sb.pa.ob, rfl, ?_⟩
      refine ⟨rfl, Sb.s.new hb Sb.nq, Sb.tout (y := n) (ys := ts ++ [tra]) (rows' := m.table ++ [trow]) keep_ne upd_same (nest_from (Sb.pa.nt.ne Sb.qt) (by rw [upd_ne hnq, upd_same, List.map_append]; rfl) (by rw [vS_len, List.length_append, List.length_append, tsl]; rfl) (fun i c ws h1 h2 => ?_)) (table_len (by rw [List.length_append]; show m.table.length + 1 ≠ _; omega)) (by rw [List.length_append]; show m.table.length + 1 ≤ 1000; omega) (fun row' hr' => ?_)⟩
      · by_cases hi : i < ts.length
        · rw [List.getElem?_append_left hi] at h1
          refine ⟨i, h1, ?_⟩
          unfold vS at h2 ⊢
          rw [List.map_append, List.getElem?_append_left (by rw [List.length_map]; omega)] at h2
          exact h2
        · have hi2 : i = ts.length := by
            have := (List.getElem?_eq_some_iff.mp h1).1
            rw [List.length_append] at this
            simp at this
            omega
          subst hi2
          have e1 : (ts ++ [tra])[ts.length]? = some tra := by simp
          have e2 : (vS (m.table ++ [trow]))[ts.length]? = some (trow.map V.str) := vS_at (by rw [tsl]; simp)
          obtain rfl : tra = c := Option.some.inj (e1.symm.trans h1)
          obtain rfl : trow.map V.str = ws := Option.some.inj (e2.symm.trans h2)
          exact ⟨0, htra, vS_at htr⟩
      · rcases List.mem_append.mp hr' with e1 | e1
        · exact sm.z row' e1
        · rw [List.mem_singleton.mp e1]
          exact sm.z trow (List.mem_of_getElem? htr)
end
end Fk
/-! _law_told -/
namespace Fk
open PySem PySem.Spec PyProof.Rows L2
def spTold : Sp := fun vs H Q _ => ∃ (p l r t : Addr) (ls rs ts : List Addr) (m : Parts), vs = [.ref p] ∧ PartsAt H p m l ls r rs t ts ∧ Small m ∧ machineOk m = false ∧ ∀ H', Same H H' → Q (.str "not a machine") H'
/-- what _law_told asks of the error classes -/
structure TErr (K : PySem.W.Frag) (mg : Str → Option Value) (CE : Addr) : Prop where
  gE : mg "MachineError" = some (.ref CE)
  eP : PySem.W.exmOne K (.ref CE) (.ref CE) = some true
  xf : XfC K CE
  noN : PySem.W.findIn K (.ref CE) "reason" = some none
  ex : ExcC K CE
  gF : ∃ FE : Addr, mg "ForeaftError" = some (.ref FE) ∧ PySem.W.kitOne K (.ref CE) (.ref FE) = some true
  gV : PySem.W.kitOne K (.ref CE) (.type "ValueError") = some true
  gB : ∃ BE : Addr, mg "BookError" = some (.ref BE) ∧ PySem.W.kitOne K (.ref CE) (.ref BE) = some false
theorem ixK {X : Cx} {K : PySem.W.Frag} (h : X.K = K) : IxR X (rIxL K) := by
  subst h
  exact ix_list
section
variable {P : Program} {w : World} {K : PySem.W.Frag} {mg : Str → Option Value} {base : Heap}
theorem scTold : FnScope ["_law_parts", "e"] ["_law_parts"] (defScope sTold) := ⟨rfl, rfl, rfl, by decide +kernel, rfl, by decide +kernel, by decide +kernel⟩
theorem ok_told {f fM C CE : Addr} {fd fdM : FuncData} (F : Fun K "_law_told" "_law_told" sTold f fd) (T : Nm mg) (E : TErr K mg CE) (mk : Mk K C fM) (gC : mg "Machine" = some (.ref C))
    (GM : FnOk P w K mg base (L2.CX P w) 3 fM fdM ["self", "reads", "writes", "left", "right", "table"] (spMach C CE)) (bM : Binds K fdM ["self", "reads", "writes", "left", "right", "table"] [])
    (cF : Cal P w K mg base "form" CX0 1 ["machine"] (spForm C)) : FnOk P w K mg base CX0 5 f fd ["_law_parts"] spTold := by
  obtain ⟨fF, fdF, DF, GF, bF⟩ := cF.ex
  obtain ⟨FE, gF, kF⟩ := E.gF
  obtain ⟨BE, gB, kB⟩ := E.gB
  refine F.ok scTold (fun vs H Q E h => ?_) (fun cdv A outer s H vs Q E0' hr h => ?_)
  · obtain ⟨p, l, r, t, ls, rs, ts, m, rfl, _⟩ := h
    rfl
  · obtain ⟨p, l, r, t, ls, rs, ts, m, rfl, pa, sm, bad, k⟩ := h
    have hr1 : Room 1 _ := hr.mono (by decide)
    refine ⟨_, pss_cons (ps_try_as (i := 1) rfl rfl scTold.nd rfl rfl ⟨rfl, by decide, .inl E.gE⟩ takes0
      (fun W pn xe tk _ => pss_one (ps_ret (pe_call GF hr1 (by rfl) DF.m DF.k bF .nil pass0 (pa_cons (pe_makeS mk GM hr (by rfl) gC bM (fun σ => passAt tk σ) (pa_cons (pe_ix (ixK (K := K) rfl) (pv 0) pe_int (fun _ _ => rfl)) (pa_cons (pe_ix (ixK (K := K) rfl) (pv 0) pe_int (fun _ _ => rfl)) (pa_cons (pe_ix (ixK (K := K) rfl) (pv 0) pe_int (fun _ _ => rfl)) (pa_cons (pe_ix (ixK (K := K) rfl) (pv 0) pe_int (fun _ _ => rfl)) (pa_cons (pe_ix (ixK (K := K) rfl) (pv 0) pe_int (fun _ _ => rfl)) pa_nil)))))) pa_nil))))
      (fun a oe cls d pn hz hf => pss_one (ps_if (PW.pt (pw_and (pt_val (pe_callB (call_isD E.ex hz hf) (by rfl) T.isi bt_isinstance (pa_cons (pv 1) (pa_cons (pe_glob (by rfl) (v := .ref FE) gF rfl) pa_nil))))
          (pw_and (pt_val (pe_callB (call_isD E.ex hz hf) (by rfl) T.isi bt_isinstance (pa_cons (pv 1) (pa_cons (pe_bltn (v := .ty "ValueError") (by rfl) T.ve bt_ve rfl) pa_nil))))
          (pw_and1 (pt_not (pt_val (pe_callB (call_isD E.ex hz hf) (by rfl) T.isi bt_isinstance (pa_cons (pv 1) (pa_cons (pe_glob (by rfl) (v := .ref BE) gB rfl) pa_nil)))))))))
        (pss_one (ps_ret (pe_xf E.xf E.noN hz hf (pv 1)))) pss_nil)))
      (pss_one (ps_ret pe_non)), ?_⟩
    refine ⟨_, rfl, p, _, 0, _, rfl, rfl, SqL.of pa.ob, rfl, _, rfl, p, _, 1, _, rfl, rfl, SqL.of pa.ob, rfl, _, rfl, p, _, 2, _, rfl, rfl, SqL.of pa.ob, rfl, _, rfl, p, _, 3, _, rfl, rfl, SqL.of pa.ob, rfl, _, rfl, p, _, 4, _, rfl, rfl, SqL.of pa.ob, rfl, fun x dx hx hdx hne => ?_⟩
    have s1 : Same H (upd H dx (.own x)) := same_new (Same.refl H) hdx
    have hx1 : (upd H dx (.own x)) x = none := by rw [upd_ne (Ne.symm hne)]; exact hx
    have s2 : Same H (upd (upd H dx (.own x)) x (.ins C dx [])) := same_new s1 hx1
    refine ⟨x, dx, l, r, t, ls, rs, ts, m, rfl, upd_same, pa.nl.same s2, pa.nr.same s2, pa.nt.same s2, sm, (fun hok => absurd (hok.symm.trans bad) (by decide)), fun _ H' d s' hd => ⟨true, E.eP, fun _ a ha => ?_, fun z => Bool.noConfusion z⟩⟩
    refine ⟨_, rfl, .ref FE, .ref FE, true, d, _, rfl, rfl, rfl, hd, fun u h => h, kF, true, rfl, ?_⟩
    refine ⟨_, rfl, .ty "ValueError", .type "ValueError", true, d, _, rfl, rfl, rfl, hd, fun u h => h, E.gV, true, rfl, ?_⟩
    refine ⟨_, rfl, .ref BE, .ref BE, false, d, _, rfl, rfl, rfl, hd, fun u h => h, kB, false, rfl, ?_⟩
    exact ⟨_, rfl, rfl, rfl, d, _, _, rfl, hd, rfl, k H' (s2.trans s')⟩
end
end Fk
/-! law -/
namespace Fk
open PySem PySem.Spec PyProof.Rows L2
theorem MachAt.ne {C : Addr} {H : Hp} {x a : Addr} {o : HO} {m : Parts} {l r t : Addr} {ls rs ts : List Addr} (h : MachAt C H x m l ls r rs t ts) (hx : a ≠ x) (hl : a ∉ l :: ls) (hr : a ∉ r :: rs) (ht : a ∉ t :: ts) : MachAt C (upd H a o) x m l ls r rs t ts := by
  obtain ⟨⟨dx, e⟩, n1, n2, n3⟩ := h
  exact ⟨⟨dx, by rw [upd_ne (Ne.symm hx)]; exact e⟩, n1.ne hl, n2.ne hr, n3.ne ht⟩
def spLaw (K : PySem.W.Frag) : Sp := fun vs H Q _ => ∃ (a : Addr) (ns : List Int), vs = [.ref a] ∧ SqL K H a (ns.map V.int) ∧ ∀ H', Q (.bl true) H'
section
variable {P : Program} {w : World} {K : PySem.W.Frag} {mg : Str → Option Value} {base : Heap}
theorem scLaw : FnScope ["_law_script", "_law_box", "_law_turn", "_law_m", "_law_handed", "_law_made_here", "_law_row_here"] ["_law_script"] (defScope sLaw) := ⟨rfl, rfl, rfl, by decide +kernel, rfl, by decide +kernel, by decide +kernel⟩
theorem ok_law {f fM C CE : Addr} {fd fdM : FuncData} (F : Fun K "law" "law" sLaw f fd) (T : Nm mg) (M : MCls K C) (mk : Mk K C fM) (gC : mg "Machine" = some (.ref C))
    (GM : FnOk P w K mg base (L2.CX P w) 3 fM fdM ["self", "reads", "writes", "left", "right", "table"] (spMach C CE)) (bM : Binds K fdM ["self", "reads", "writes", "left", "right", "table"] [])
    (cRow : Cal P w K mg base "_law_row" CX0 2 ["_law_script", "_law_first", "_law_last"] (spRow K)) (cD : Cal P w K mg base "_law_draw" CX0 1 ["_law_box", "_law_many"] spDraw) (cLet : Cal P w K mg base "_law_alphabet" CX0 2 ["_law_box", "_law_many"] spLet)
    (cMk : Cal P w K mg base "_law_machine" CX0 3 ["_law_box", "_law_ins", "_law_outs", "_law_most"] spMaker) (cF : Cal P w K mg base "form" CX0 1 ["machine"] (spForm C)) (cLF : Cal P w K mg base "_law_form" CX0 1 ["_law_m"] spLForm)
    (cSp : Cal P w K mg base "_law_spoiled" CX0 2 ["_law_box", "_law_m"] spSpoil) (cT : Cal P w K mg base "_law_told" CX0 5 ["_law_parts"] spTold) : FnOk P w K mg base CX0 6 f fd ["_law_script"] (spLaw K) := by
  obtain ⟨fRow, fdRow, DRow, GRow, bRow⟩ := cRow.ex
  obtain ⟨fD, fdD, DD, GD, bD⟩ := cD.ex
  obtain ⟨fLet, fdLet, DLet, GLet, bLet⟩ := cLet.ex
  obtain ⟨fMk, fdMk, DMk, GMk, bMk⟩ := cMk.ex
  obtain ⟨fF, fdF, DF, GF, bF⟩ := cF.ex
  obtain ⟨fLF, fdLF, DLF, GLF, bLF⟩ := cLF.ex
  obtain ⟨fSp, fdSp, DSp, GSp, bSp⟩ := cSp.ex
  obtain ⟨fT, fdT, DT, GT, bT⟩ := cT.ex
  refine F.ok scLaw (fun vs H Q E h => ?_) (fun cdv A outer s H vs Q E hr h => ?_)
  · obtain ⟨a, ns, rfl, _⟩ := h
    rfl
  · obtain ⟨a, ns, rfl, hS, k⟩ := h
    have hr1 : Room 1 _ := hr.mono (by decide)
    have hr2 : Room 2 _ := hr.mono (by decide)
    have hr3 : Room 3 _ := hr.mono (by decide)
    have hr4 : Room 4 _ := hr.mono (by decide)
    refine ⟨_, pss_cons (ps_set (i := 1) scLaw.nd rfl (Or.inl rfl) (pe_lst (pa_cons (pe_call GRow hr2 (by rfl) DRow.m DRow.k bRow .nil pass0 (pa_cons (pv 0) (pa_cons pe_int (pa_cons pe_int pa_nil)))) (pa_cons pe_int pa_nil))))
      (pss_cons (ps_for PassesOwn.never rfl (pi_range1 (by rfl) T.range (pa_cons pe_int pa_nil)) (pg_name (i := 2) scLaw.nd rfl (Or.inl rfl))
        (pss_cons (ps_set (i := 3) scLaw.nd rfl (Or.inl rfl) (pe_call GMk hr3 (by rfl) DMk.m DMk.k bMk .nil pass0 (pa_cons (pv 1) (pa_cons (pe_call GLet hr2 (by rfl) DLet.m DLet.k bLet .nil pass0 (pa_cons (pv 1) (pa_cons (pe_op op_add pe_int (pe_call GD hr1 (by rfl) DD.m DD.k bD .nil pass0 (pa_cons (pv 1) (pa_cons pe_int pa_nil)))) pa_nil))) (pa_cons (pe_call GLet hr2 (by rfl) DLet.m DLet.k bLet .nil pass0 (pa_cons (pv 1) (pa_cons (pe_op op_add pe_int (pe_call GD hr1 (by rfl) DD.m DD.k bD .nil pass0 (pa_cons (pv 1) (pa_cons pe_int pa_nil)))) pa_nil))) (pa_cons pe_int pa_nil))))))
        (pss_cons (ps_set (i := 4) scLaw.nd rfl (Or.inl rfl) (pe_lst (pa_cons (pe_ix ix_list (pv 3) pe_int (fun _ _ => rfl)) (pa_cons (pe_ix ix_list (pv 3) pe_int (fun _ _ => rfl)) (pa_cons (pe_imp (pe_lc (own := [("_law_row_here", 6)]) (g := gName 6) (tt := tYes) rfl scLaw.nd (pi_list (pe_ix ix_list (pv 3) pe_int (fun _ _ => rfl))) (blkOk_by (own := [("_law_row_here", 6)]) (N := ["_law_script", "_law_box", "_law_turn", "_law_m", "_law_handed", "_law_made_here", "_law_row_here"]) (sc := defScope sLaw) (by decide +kernel)) (fun _ _ _ _ _ => pg_name (i := 6) scLaw.nd rfl (Or.inl rfl)) (fun _ _ _ _ _ => pts_nil) (fun _ _ _ _ _ => pe_callTy call_list_of (by rfl) T.list bt_list (pa_cons (pv 6) pa_nil))) (copy_imp (mono_ix mono_var mono_int))) (pa_cons (pe_imp (pe_lc (own := [("_law_row_here", 6)]) (g := gName 6) (tt := tYes) rfl scLaw.nd (pi_list (pe_ix ix_list (pv 3) pe_int (fun _ _ => rfl))) (blkOk_by (own := [("_law_row_here", 6)]) (N := ["_law_script", "_law_box", "_law_turn", "_law_m", "_law_handed", "_law_made_here", "_law_row_here"]) (sc := defScope sLaw) (by decide +kernel)) (fun _ _ _ _ _ => pg_name (i := 6) scLaw.nd rfl (Or.inl rfl)) (fun _ _ _ _ _ => pts_nil) (fun _ _ _ _ _ => pe_callTy call_list_of (by rfl) T.list bt_list (pa_cons (pv 6) pa_nil))) (copy_imp (mono_ix mono_var mono_int))) (pa_cons (pe_imp (pe_lc (own := [("_law_row_here", 6)]) (g := gName 6) (tt := tYes) rfl scLaw.nd (pi_list (pe_ix ix_list (pv 3) pe_int (fun _ _ => rfl))) (blkOk_by (own := [("_law_row_here", 6)]) (N := ["_law_script", "_law_box", "_law_turn", "_law_m", "_law_handed", "_law_made_here", "_law_row_here"]) (sc := defScope sLaw) (by decide +kernel)) (fun _ _ _ _ _ => pg_name (i := 6) scLaw.nd rfl (Or.inl rfl)) (fun _ _ _ _ _ => pts_nil) (fun _ _ _ _ _ => pe_callTy call_list_of (by rfl) T.list bt_list (pa_cons (pv 6) pa_nil))) (copy_imp (mono_ix mono_var mono_int))) pa_nil)))))))
        (pss_cons (ps_set (i := 5) scLaw.nd rfl (Or.inl rfl) (pe_make mk GM hr4 (by rfl) gC bM .nil passL (pa_cons (pe_ix ix_list (pv 4) pe_int (fun _ _ => rfl)) (pa_cons (pe_ix ix_list (pv 4) pe_int (fun _ _ => rfl)) (pa_cons (pe_ix ix_list (pv 4) pe_int (fun _ _ => rfl)) (pa_cons (pe_ix ix_list (pv 4) pe_int (fun _ _ => rfl)) (pa_cons (pe_ix ix_list (pv 4) pe_int (fun _ _ => rfl)) pa_nil)))))))
        (pss_cons (ps_asg pe_int (pg_sub (pe_ix ix_list (pe_ix ix_list (pv 4) pe_int (fun _ _ => rfl)) pe_int (fun _ _ => rfl)) pe_int set_list))
        (pss_cons (ps_expr (pe_bm PySem.F.plainAttrs_list PySem.F.slot_list_append PySem.F.type_list_append mt_append (pe_ix ix_list (pv 4) pe_int (fun _ _ => rfl)) (pa_cons (pe_lst pa_nil) pa_nil)))
        (pss_cons (ps_asg pe_str (pg_sub (pe_ix ix_list (pe_ix ix_list (pv 4) pe_int (fun _ _ => rfl)) pe_int (fun _ _ => rfl)) pe_int set_list))
        (pss_cons (ps_if (PW.pt (pw_or (pt_cmpR (op_neD hr.units) (pe_call GF hr1 (by rfl) DF.m DF.k bF .nil pass0 (pa_cons (pv 5) pa_nil)) (pe_call GLF hr1 (by rfl) DLF.m DLF.k bLF .nil pass0 (pa_cons (pv 3) pa_nil)) (nomark _)) (pw_or (pt_cmpR op_ne (pe_fld (pv 5) rfl) (pe_ix ix_list (pv 3) pe_int (fun _ _ => rfl)) (nomark _)) (pw_or1 (pt_cmpR op_ne (pe_fld (pv 5) rfl) (pe_ix ix_list (pv 3) pe_int (fun _ _ => rfl)) (nomark _)))))) (pss_one (ps_ret pe_bl)) pss_nil)
        (pss_cons (ps_if (pt_cmpR (op_neD hr.units) (pe_lst (pa_cons (pe_fld (pv 5) rfl) (pa_cons (pe_fld (pv 5) rfl) (pa_cons (pe_fld (pv 5) rfl) pa_nil)))) (pe_lst (pa_cons (pe_ix ix_list (pv 3) pe_int (fun _ _ => rfl)) (pa_cons (pe_ix ix_list (pv 3) pe_int (fun _ _ => rfl)) (pa_cons (pe_ix ix_list (pv 3) pe_int (fun _ _ => rfl)) pa_nil)))) (nomark _)) (pss_one (ps_ret pe_bl)) pss_nil)
        (pss_one (ps_if (pt_cmpR op_ne (pe_call GT hr (by rfl) DT.m DT.k bT .nil pass0 (pa_cons (pe_call GSp hr2 (by rfl) DSp.m DSp.k bSp .nil pass0 (pa_cons (pv 1) (pa_cons (pv 3) pa_nil))) pa_nil)) pe_str (nomark _)) (pss_one (ps_ret pe_bl)) pss_nil)))))))))))
      (pss_one (ps_ret pe_bl))), ?_⟩
    -- box = [row, 0]
    refine ⟨_, rfl, a, ns, rfl, hS, fun H1 c zs s1 _ hc => ⟨(by show 2 ≤ sizeLine; decide), fun b hbn => ?_⟩⟩
    have hcb : c ≠ b := ne_of_none hc hbn
    have B0 : Box (upd H1 b (.lst [.ref c, .int 0])) b := ⟨c, 0, zs, upd_same, by rw [upd_ne hcb]; exact hc, Int.le_refl 0⟩
    refine ⟨4, rfl, by decide, by decide, for_range (lo := 0) (n := (4 : Int).toNat) (fun i σ G => ∃ v2 v3 v4 v5 : Option V, σ = [some (.ref a), some (.ref b), v2, v3, v4, v5, none] ∧ Box G b) ⟨none, none, none, none, rfl, B0⟩ ?_ ?_⟩
    rotate_left
    · rintro σ G ⟨v2, v3, v4, v5, rfl, _⟩
      exact k G
    rintro i σ G _ ⟨v2, v3, v4, v5, rfl, hb⟩
    -- the machine
    refine ⟨_, rfl, _, rfl, _, rfl, b, 4, rfl, by decide, hb, fun d1 G1 d10 d14 s1 => ⟨_, _, rfl, rfl, ?_⟩⟩
    obtain ⟨k1, rfl⟩ : ∃ j : Nat, d1 = (j : Int) := ⟨d1.toNat, by omega⟩
    have hb1 := s1.box hb
    have e1 : (1 + (k1 : Int)) = ((k1 + 1 : Nat) : Int) := by omega
    refine ⟨b, k1, (by show [V.ref b, V.int (1 + (k1 : Int))] = _; rw [e1]), by omega, hb1, fun z1 G2 hz1 s2 => ?_⟩
    have hb2 := s2.box hb1
    refine ⟨_, rfl, _, rfl, b, 4, rfl, by decide, hb2, fun d2 G3 d20 d24 s3 => ⟨_, _, rfl, rfl, ?_⟩⟩
    obtain ⟨k2, rfl⟩ : ∃ j : Nat, d2 = (j : Int) := ⟨d2.toNat, by omega⟩
    have hb3 := s3.box hb2
    have e2 : (1 + (k2 : Int)) = ((k2 + 1 : Nat) : Int) := by omega
    refine ⟨b, k2, (by show [V.ref b, V.int (1 + (k2 : Int))] = _; rw [e2]), by omega, hb3, fun z2 G4 hz2 s4 => ?_⟩
    have hb4 := s4.box hb3
    refine ⟨b, z1, z2, rfl, hz1, hz2, hb4, fun p l0 r0 t0 ls0 rs0 ts0 m G5 s5 pa g => ?_⟩
    have hb5 := s5.box hb4
    have sm := g.small
    have kl : ls0.length = m.left.length := by rw [pa.nl.len, vI_len]
    have kr : rs0.length = m.right.length := by rw [pa.nr.len, vI_len]
    have kt : ts0.length = m.table.length := by rw [pa.nt.len, vS_len]
    -- what is handed
    refine ⟨_, rfl, p, _, 0, _, rfl, rfl, SqL.of pa.ob, rfl, _, rfl, p, _, 1, _, rfl, rfl, SqL.of pa.ob, rfl, _, rfl, p, _, 2, _, rfl, rfl, SqL.of pa.ob, rfl, l0, ls0, vI m.left, rfl, pa.nl, by rw [kl]; exact sm.l, (by show 6 < 7; decide), fun l ls H1' F1 N1 => ?_⟩
    refine ⟨_, rfl, p, _, 3, _, rfl, rfl, SqL.of (F1.same _ _ pa.ob), rfl, r0, rs0, vI m.right, rfl, pa.nr.same F1.same, by rw [kr]; exact sm.r, (by show 6 < 7; decide), fun r rs H2 F2 N2 => ?_⟩
    refine ⟨_, rfl, p, _, 4, _, rfl, rfl, SqL.of (F2.same _ _ (F1.same _ _ pa.ob)), rfl, t0, ts0, vS m.table, rfl, (pa.nt.same F1.same).same F2.same, by rw [kt]; exact sm.t, (by show 6 < 7; decide), fun t ts H3 F3 N3 => ?_⟩
    refine ⟨(by show 5 ≤ sizeLine; decide), fun q hq => ?_⟩
    have S3 : Same G5 H3 := (F1.same.trans F2.same).trans F3.same
    have M1 := (N1.same F2.same).same F3.same
    have M2 := N2.same F3.same
    have S : Spo b G5 (upd H3 q (.lst [.str m.reads, .str m.writes, .ref l, .ref r, .ref t])) q m l ls r rs t ts := by
      refine ⟨(Step.of_same S3).new hb5 (S3.free hq), hb5, ⟨upd_same, M1.ne (M1.off hq), M2.ne (M2.off hq), N3.ne (N3.off hq)⟩, g, S3.free hq, F1.new, fun c hc => F1.same.free (F2.new c hc), fun c hc => F1.same.free (F2.same.free (F3.new c hc)), F1.nd, F2.nd, F3.nd, fun c h1 h2 => ?_, fun c h1 h2 => ?_, fun c h1 h2 => ?_, M1.off hq, M2.off hq, N3.off hq⟩
      · exact N1.off (F2.new c h2) h1
      · exact (N1.same F2.same).off (F3.new c h2) h1
      · exact N2.off (F3.new c h2) h1
    -- made = Machine(..)
    refine ⟨_, rfl, q, _, 0, _, rfl, rfl, SqL.of S.pa.ob, rfl, _, rfl, q, _, 1, _, rfl, rfl, SqL.of S.pa.ob, rfl, _, rfl, q, _, 2, _, rfl, rfl, SqL.of S.pa.ob, rfl, _, rfl, q, _, 3, _, rfl, rfl, SqL.of S.pa.ob, rfl, _, rfl, q, _, 4, _, rfl, rfl, SqL.of S.pa.ob, rfl, fun x dx hx hdx hne => ?_⟩
    generalize upd H3 q (.lst [.str m.reads, .str m.writes, .ref l, .ref r, .ref t]) = Gq at hx hdx S ⊢
    have sA : Same Gq (upd Gq dx (.own x)) := same_new (Same.refl Gq) hdx
    have hx1 : (upd Gq dx (.own x)) x = none := by rw [upd_ne (Ne.symm hne)]; exact hx
    have sB : Same Gq (upd (upd Gq dx (.own x)) x (.ins C dx [])) := same_new sA hx1
    refine ⟨x, dx, l, r, t, ls, rs, ts, m, rfl, upd_same, S.pa.nl.same sB, S.pa.nr.same sB, S.pa.nt.same sB, sm, (fun _ G7 l2 ls2 r2 rs2 t2 ts2 hk MA hnew => ⟨rfl, ?_⟩), (fun hbad => absurd ((good_ok g).symm.trans hbad) (by decide))⟩
    have s7 : Same Gq G7 := fun c o e => hk c o (sB c o e) (ne_of_none e hx)
    have S7 := S.step (Step.of_same s7)
    -- what stood before the machine is none of its own
    have off : ∀ c o, Gq c = some o → c ≠ x ∧ c ∉ l2 :: ls2 ∧ c ∉ r2 :: rs2 ∧ c ∉ t2 :: ts2 := fun c o e => by
      have e2 := sB c o e
      refine ⟨ne_of_none e hx, fun h => ?_, fun h => ?_, fun h => ?_⟩
      · rw [hnew c (.inl h)] at e2
        cases e2
      · rw [hnew c (.inr (.inl h))] at e2
        cases e2
      · rw [hnew c (.inr (.inr h))] at e2
        cases e2
    -- handed[2][0][0] = 77
    obtain ⟨i1, i4⟩ := alpha_len g.ins
    have l1 := g.l1
    have r1 := g.r1
    have tl1 := g.tlen
    obtain ⟨lrow, hlr⟩ : ∃ y, m.left[0]? = some y := ⟨_, List.getElem?_eq_getElem (by omega)⟩
    have lrl := (g.lrow lrow (List.mem_of_getElem? hlr)).1
    obtain ⟨ra, hra, hraq⟩ := S.pa.nl.get (vI_at hlr)
    have hram : ra ∈ l :: ls := List.mem_cons_of_mem _ (List.mem_of_getElem? hra)
    refine ⟨_, rfl, q, _, 2, _, rfl, rfl, SqL.of S7.pa.ob, rfl, l, _, 0, _, rfl, rfl, SqL.of S7.pa.nl.lst, atI_nat (j := 0) (by rw [List.getElem?_map, hra]; rfl), ra, _, 0, 0, rfl, rfl, S7.pa.nl.row 0 ra _ hra (vI_at hlr), ixN_at (j := 0) (by rw [List.length_map]; omega), ?_⟩
    have st8 := S7.s.new (o := .lst ((lrow.map V.int).set 0 (.int 77))) hb5 (S7.nl ra hram)
    obtain ⟨o1, o2, o3, o4⟩ := off ra _ hraq
    have MA8 := MA.ne (a := ra) (o := .lst ((lrow.map V.int).set 0 (.int 77))) o1 o2 o3 o4
    have q8 := keep_ne (G := G7) (a := ra) (o := .lst ((lrow.map V.int).set 0 (.int 77))) q _ (fun z => S.ql (by rw [z]; exact hram)) S7.pa.ob
    have nr8 := S7.pa.nr.ne (c := ra) (o := .lst ((lrow.map V.int).set 0 (.int 77))) (S.lr ra hram)
    have nt8 := S7.pa.nt.ne (c := ra) (o := .lst ((lrow.map V.int).set 0 (.int 77))) (S.lt ra hram)
    generalize upd G7 ra (.lst ((lrow.map V.int).set 0 (.int 77))) = G8 at st8 MA8 q8 nr8 nt8 ⊢
    -- handed[3].append([])
    refine ⟨_, rfl, q, _, 3, _, rfl, rfl, SqL.of q8, rfl, .inl ⟨rfl, _, SqL.of nr8.lst⟩, (by show 0 ≤ sizeLine; decide), fun n hn => ?_⟩
    have sn := same_new (o := .lst []) (Same.refl G8) hn
    have nrl : rs.length = m.right.length := by rw [nr8.len, vI_len]
    have r6 := g.r6
    refine ⟨r, _, _, rfl, rfl, (nr8.same sn).lst, small_lt (by rw [List.length_map]; omega), ?_⟩
    have st9 := (st8.trans (Step.of_same sn)).new (o := .lst (rs.map V.ref ++ [.ref n])) hb5 (S7.nr r List.mem_cons_self)
    obtain ⟨o1, o2, o3, o4⟩ := off r _ S.pa.nr.lst
    have MA9 := (MA8.same sn).ne (a := r) (o := .lst (rs.map V.ref ++ [.ref n])) o1 o2 o3 o4
    have q9 := keep_ne (a := r) (o := .lst (rs.map V.ref ++ [.ref n])) q _ (fun z => S.qr (by rw [z]; exact List.mem_cons_self)) (sn _ _ q8)
    have nt9 := (nt8.same sn).ne (c := r) (o := .lst (rs.map V.ref ++ [.ref n])) (S.rt r List.mem_cons_self)
    generalize upd (upd G8 n (.lst [])) r (.lst (rs.map V.ref ++ [.ref n])) = G9 at st9 MA9 q9 nt9 ⊢
    -- handed[4][0][0] = ''
    obtain ⟨trow, htr⟩ : ∃ y, m.table[0]? = some y := ⟨_, List.getElem?_eq_getElem (by omega)⟩
    have trl := (g.trow trow (List.mem_of_getElem? htr)).1
    obtain ⟨ta, hta, htaq⟩ := S.pa.nt.get (vS_at htr)
    have htam : ta ∈ t :: ts := List.mem_cons_of_mem _ (List.mem_of_getElem? hta)
    refine ⟨_, rfl, q, _, 4, _, rfl, rfl, SqL.of q9, rfl, t, _, 0, _, rfl, rfl, SqL.of nt9.lst, atI_nat (j := 0) (by rw [List.getElem?_map, hta]; rfl), ta, _, 0, 0, rfl, rfl, nt9.row 0 ta _ hta (vS_at htr), ixN_at (j := 0) (by rw [List.length_map]; omega), ?_⟩
    have st := st9.new (o := .lst ((trow.map V.str).set 0 (.str ""))) hb5 (S7.nt ta htam)
    obtain ⟨o1, o2, o3, o4⟩ := off ta _ htaq
    have MX := MA9.ne (a := ta) (o := .lst ((trow.map V.str).set 0 (.str ""))) o1 o2 o3 o4
    generalize upd G9 ta (.lst ((trow.map V.str).set 0 (.str ""))) = GX at st MX ⊢
    have PX := pa.step hb5 st
    have BX := st.box hb5
    -- form(made) != _law_form(m), or the alphabets
    refine ⟨_, rfl, x, l2, r2, t2, ls2, rs2, ts2, m, rfl, MX, sm, fun G11 q1 s11 f1 => ?_⟩
    refine ⟨_, rfl, p, l0, r0, t0, ls0, rs0, ts0, m, rfl, PX.same s11, sm, fun G12 q2 s12 f2 => ?_⟩
    have s12' := s11.trans s12
    have MY := MX.same s12'
    have PY := PX.same s12'
    obtain ⟨⟨dy, hxo⟩, nl2, nr2, nt2⟩ := MY
    refine ⟨formD m, formD m, (f1.same s12).dp, f2.dp, good_form g, good_form g, _, rfl, ?_⟩
    rw [eqv_self (good_form g)]
    refine ⟨_, rfl, x, C, dy, _, _, rfl, hxo, M.cl, M.n1, mF_reads _ _ _ _, _, rfl, p, _, 0, _, rfl, rfl, SqL.of PY.ob, rfl, rfl, _, rfl, ?_⟩
    refine iteNS rfl ?_
    refine ⟨_, rfl, x, C, dy, _, _, rfl, hxo, M.cl, M.n2, mF_writes _ _ _ _, _, rfl, p, _, 1, _, rfl, rfl, SqL.of PY.ob, rfl, rfl, _, rfl, ?_⟩
    refine iteNS rfl ?_
    -- the tables
    refine ⟨_, rfl, x, C, dy, _, _, rfl, hxo, M.cl, M.n3, mF_left _ _ _ _, _, rfl, x, C, dy, _, _, rfl, hxo, M.cl, M.n4, mF_right _ _ _ _, _, rfl, x, C, dy, _, _, rfl, hxo, M.cl, M.n5, mF_table _ _ _ _, (by show 3 ≤ sizeLine; decide), fun p1 hp1 => ?_⟩
    have sp1 := same_new (o := .lst [.ref l2, .ref r2, .ref t2]) (Same.refl G12) hp1
    have PZ := PY.same sp1
    have e9 : (upd G12 p1 (.lst [.ref l2, .ref r2, .ref t2])) p1 = some (.lst [.ref l2, .ref r2, .ref t2]) := upd_same
    have nl3 := nl2.same sp1
    have nr3 := nr2.same sp1
    have nt3 := nt2.same sp1
    have stZ := (st.trans (Step.of_same s12')).trans (Step.of_same sp1)
    generalize upd G12 p1 (.lst [.ref l2, .ref r2, .ref t2]) = G13 at PZ e9 nl3 nr3 nt3 stZ ⊢
    refine ⟨_, rfl, p, _, 2, _, rfl, rfl, SqL.of PZ.ob, rfl, _, rfl, p, _, 3, _, rfl, rfl, SqL.of PZ.ob, rfl, _, rfl, p, _, 4, _, rfl, rfl, SqL.of PZ.ob, rfl, (by show 3 ≤ sizeLine; decide), fun p2 hp2 => ?_⟩
    have sp2 := same_new (o := .lst [.ref l0, .ref r0, .ref t0]) (Same.refl G13) hp2
    have PW := PZ.same sp2
    refine ⟨tabsD m, tabsD m, dp_tabs (sp2 _ _ e9) (nl3.same sp2) (nr3.same sp2) (nt3.same sp2), dp_tabs upd_same PW.nl PW.nr PW.nt, good_tabs g, good_tabs g, _, rfl, ?_⟩
    rw [eqv_self (good_tabs g)]
    have stW := stZ.trans (Step.of_same sp2)
    generalize upd G13 p2 (.lst [.ref l0, .ref r0, .ref t0]) = G14 at PW stW ⊢
    -- _law_told(_law_spoiled(..))
    refine ⟨_, rfl, _, rfl, b, p, l0, r0, t0, ls0, rs0, ts0, m, rfl, PW, g, stW.box hb5, fun q3 G15 s15 ⟨m3, l3, ls3, r3, rs3, t3, ts3, pa3, bad3, sm3⟩ => ?_⟩
    refine ⟨q3, l3, r3, t3, ls3, rs3, ts3, m3, rfl, pa3, sm3, bad3, fun G16 s16 => ⟨rfl, _, rfl, ?_⟩⟩
    refine iteNS rfl ?_
    exact ⟨_, _, _, _, rfl, ((stW.box hb5 |> s15.box)).same s16⟩
end
end Fk
/-! what the top has written, and the law -/
namespace Fk
open PySem PySem.Spec PyProof.Rows L2
theorem exm_self {K : PySem.W.Frag} {S : Addr} (h1 : PySem.W.subIn K (.ref S) (.type "BaseException") = some true) (h2 : PySem.W.isClsIn K S = true) (h3 : PySem.W.typeIn K (.ref S) = some (.type "type")) (h4 : PySem.W.subIn K (.ref S) (.ref S) = some true) : PySem.W.exmOne K (.ref S) (.ref S) = some true := by
  unfold PySem.W.exmOne PySem.W.kitCls
  have h2' : (PySem.W.clsIn K S).isSome = true := h2
  simp only [h1, h2', h3, h4, beq_self_eq_true, Bool.and_self, if_true]
/-- isinstance's answer for an own class -/
theorem kit_own {K : PySem.W.Frag} {S D : Addr} {b : Bool} (h0 : PySem.W.subIn K (.ref S) (.ref S) = some true) (h2 : PySem.W.isClsIn K D = true) (h3 : PySem.W.typeIn K (.ref D) = some (.type "type")) (h4 : PySem.W.subIn K (.ref S) (.ref D) = some b) : PySem.W.kitOne K (.ref S) (.ref D) = some b := by
  unfold PySem.W.kitOne
  by_cases c : (Value.ref S == Value.ref D) = true
  · have e : S = D := Value.ref.inj (beq_iff_eq.mp c)
    subst e
    rw [if_pos c, ← h4, h0]
  · rw [if_neg c]
    unfold PySem.W.kitCls
    have h2' : (PySem.W.clsIn K D).isSome = true := h2
    simp only [h2', h3, h4, beq_self_eq_true, Bool.and_self, if_true]
theorem kit_ve {K : PySem.W.Frag} {S : Addr} (h : PySem.W.subIn K (.ref S) (.type "ValueError") = some true) : PySem.W.kitOne K (.ref S) (.type "ValueError") = some true := by
  unfold PySem.W.kitOne PySem.W.kitCls
  have e : PySem.W.kitMeta "ValueError" = true := by decide +kernel
  rw [if_neg (by intro z; cases beq_iff_eq.mp z)]
  show (if PySem.W.kitMeta "ValueError" = true then PySem.W.subIn K (.ref S) (.type "ValueError") else none) = some true
  rw [if_pos e]
  exact h
theorem all_mk {P : Program} {w : World} {K : PySem.W.Frag} {h : Heap} {mg : Str → Option Value} {fa C CE FE BE fI f0 f1 f2 f3 f4 f5 f6 f7 f8 f9 f10 f11 f12 f13 f14 f99 : Addr} (X : K.In h) (G : h.Ns mainGlobals mg) (hfa : mg "law" = some (.ref fa))
    {od0 an0 od1 an1 od2 an2 od3 an3 od4 an4 od5 an5 od6 an6 od7 an7 od8 an8 od9 an9 od10 an10 od11 an11 od12 an12 od13 an13 od14 an14 od99 an99 odI anI cdd cld : Option Addr} {sl0 sl1 sl2 sl3 sl4 sl5 sl6 sl7 sl8 sl9 sl10 sl11 sl12 sl13 sl14 sl99 slI ccs csl : Array (Option Value)} {oc0 kV0 dc0 pm0 cd0 ct0 oc1 kV1 dc1 pm1 cd1 ct1 oc2 kV2 dc2 pm2 cd2 ct2 oc3 kV3 dc3 pm3 cd3 ct3 oc4 kV4 dc4 pm4 cd4 ct4 oc5 kV5 dc5 pm5 cd5 ct5 oc6 kV6 dc6 pm6 cd6 ct6 oc7 kV7 dc7 pm7 cd7 ct7 oc8 kV8 dc8 pm8 cd8 ct8 oc9 kV9 dc9 pm9 cd9 ct9 oc10 kV10 dc10 pm10 cd10 ct10 oc11 kV11 dc11 pm11 cd11 ct11 oc12 kV12 dc12 pm12 cd12 ct12 oc13 kV13 dc13 pm13 cd13 ct13 oc14 kV14 dc14 pm14 cd14 ct14 oc99 kV99 dc99 pm99 cd99 ct99 ocI dcI pmI ctI ccl clc : Value} {cda cc : Addr} {fvs : Array Value} {file : Str} {tf : Tok}
    {nm q : Str} {N : Addr} {bs bm : List Value} {sn : List Str} {sub : List Value} {ab : Bool} {col : Option Bool} {dd : Option Addr} {m0 m1 m2 m3 m5 : Option Value} {lv : Str} {lt t5 t40 : Tok}
    (a0 : PySem.W.nsIn K mainGlobals "is_alphabet" = some (some (.ref f0)))
    (l0 : K.lookup f0 = some ⟨oc0, od0, .func (PySem.W.fnOf "is_alphabet" "is_alphabet" (defArgs sAlpha) (defBody sAlpha) (defScope sAlpha) .none kV0 dc0 pm0 an0 cd0 ct0), sl0⟩)
    (c0 : PySem.W.codeIn K cd0 "is_alphabet" = true)
    (k0 : PySem.W.keepIn K (.ref f0) = true)
    (a1 : PySem.W.nsIn K mainGlobals "is_word" = some (some (.ref f1)))
    (l1 : K.lookup f1 = some ⟨oc1, od1, .func (PySem.W.fnOf "is_word" "is_word" (defArgs sWord) (defBody sWord) (defScope sWord) .none kV1 dc1 pm1 an1 cd1 ct1), sl1⟩)
    (c1 : PySem.W.codeIn K cd1 "is_word" = true)
    (k1 : PySem.W.keepIn K (.ref f1) = true)
    (a2 : PySem.W.nsIn K mainGlobals "_are_rows" = some (some (.ref f2)))
    (l2 : K.lookup f2 = some ⟨oc2, od2, .func (PySem.W.fnOf "_are_rows" "_are_rows" (defArgs sRows) (defBody sRows) (defScope sRows) .none kV2 dc2 pm2 an2 cd2 ct2), sl2⟩)
    (c2 : PySem.W.codeIn K cd2 "_are_rows" = true)
    (k2 : PySem.W.keepIn K (.ref f2) = true)
    (a3 : PySem.W.nsIn K mainGlobals "_is_table" = some (some (.ref f3)))
    (l3 : K.lookup f3 = some ⟨oc3, od3, .func (PySem.W.fnOf "_is_table" "_is_table" (defArgs sTab) (defBody sTab) (defScope sTab) .none kV3 dc3 pm3 an3 cd3 ct3), sl3⟩)
    (c3 : PySem.W.codeIn K cd3 "_is_table" = true)
    (k3 : PySem.W.keepIn K (.ref f3) = true)
    (a4 : PySem.W.nsIn K mainGlobals "form" = some (some (.ref f4)))
    (l4 : K.lookup f4 = some ⟨oc4, od4, .func (PySem.W.fnOf "form" "form" (defArgs sForm) (defBody sForm) (defScope sForm) .none kV4 dc4 pm4 an4 cd4 ct4), sl4⟩)
    (c4 : PySem.W.codeIn K cd4 "form" = true)
    (k4 : PySem.W.keepIn K (.ref f4) = true)
    (a5 : PySem.W.nsIn K mainGlobals "_law_cell" = some (some (.ref f5)))
    (l5 : K.lookup f5 = some ⟨oc5, od5, .func (PySem.W.fnOf "_law_cell" "_law_cell" (defArgs sCell) (defBody sCell) (defScope sCell) .none kV5 dc5 pm5 an5 cd5 ct5), sl5⟩)
    (c5 : PySem.W.codeIn K cd5 "_law_cell" = true)
    (k5 : PySem.W.keepIn K (.ref f5) = true)
    (a6 : PySem.W.nsIn K mainGlobals "_law_row" = some (some (.ref f6)))
    (l6 : K.lookup f6 = some ⟨oc6, od6, .func (PySem.W.fnOf "_law_row" "_law_row" (defArgs sRow) (defBody sRow) (defScope sRow) .none kV6 dc6 pm6 an6 cd6 ct6), sl6⟩)
    (c6 : PySem.W.codeIn K cd6 "_law_row" = true)
    (k6 : PySem.W.keepIn K (.ref f6) = true)
    (a7 : PySem.W.nsIn K mainGlobals "_law_draw" = some (some (.ref f7)))
    (l7 : K.lookup f7 = some ⟨oc7, od7, .func (PySem.W.fnOf "_law_draw" "_law_draw" (defArgs sDraw) (defBody sDraw) (defScope sDraw) .none kV7 dc7 pm7 an7 cd7 ct7), sl7⟩)
    (c7 : PySem.W.codeIn K cd7 "_law_draw" = true)
    (k7 : PySem.W.keepIn K (.ref f7) = true)
    (a8 : PySem.W.nsIn K mainGlobals "_law_states" = some (some (.ref f8)))
    (l8 : K.lookup f8 = some ⟨oc8, od8, .func (PySem.W.fnOf "_law_states" "_law_states" (defArgs sStates) (defBody sStates) (defScope sStates) .none kV8 dc8 pm8 an8 cd8 ct8), sl8⟩)
    (c8 : PySem.W.codeIn K cd8 "_law_states" = true)
    (k8 : PySem.W.keepIn K (.ref f8) = true)
    (a9 : PySem.W.nsIn K mainGlobals "_law_machine" = some (some (.ref f9)))
    (l9 : K.lookup f9 = some ⟨oc9, od9, .func (PySem.W.fnOf "_law_machine" "_law_machine" (defArgs sMaker) (defBody sMaker) (defScope sMaker) .none kV9 dc9 pm9 an9 cd9 ct9), sl9⟩)
    (c9 : PySem.W.codeIn K cd9 "_law_machine" = true)
    (k9 : PySem.W.keepIn K (.ref f9) = true)
    (a10 : PySem.W.nsIn K mainGlobals "_law_alphabet" = some (some (.ref f10)))
    (l10 : K.lookup f10 = some ⟨oc10, od10, .func (PySem.W.fnOf "_law_alphabet" "_law_alphabet" (defArgs sLet) (defBody sLet) (defScope sLet) .none kV10 dc10 pm10 an10 cd10 ct10), sl10⟩)
    (c10 : PySem.W.codeIn K cd10 "_law_alphabet" = true)
    (k10 : PySem.W.keepIn K (.ref f10) = true)
    (a11 : PySem.W.nsIn K mainGlobals "_law_form" = some (some (.ref f11)))
    (l11 : K.lookup f11 = some ⟨oc11, od11, .func (PySem.W.fnOf "_law_form" "_law_form" (defArgs sLForm) (defBody sLForm) (defScope sLForm) .none kV11 dc11 pm11 an11 cd11 ct11), sl11⟩)
    (c11 : PySem.W.codeIn K cd11 "_law_form" = true)
    (k11 : PySem.W.keepIn K (.ref f11) = true)
    (a12 : PySem.W.nsIn K mainGlobals "_law_spoiled" = some (some (.ref f12)))
    (l12 : K.lookup f12 = some ⟨oc12, od12, .func (PySem.W.fnOf "_law_spoiled" "_law_spoiled" (defArgs sSpoil) (defBody sSpoil) (defScope sSpoil) .none kV12 dc12 pm12 an12 cd12 ct12), sl12⟩)
    (c12 : PySem.W.codeIn K cd12 "_law_spoiled" = true)
    (k12 : PySem.W.keepIn K (.ref f12) = true)
    (a13 : PySem.W.nsIn K mainGlobals "_law_told" = some (some (.ref f13)))
    (l13 : K.lookup f13 = some ⟨oc13, od13, .func (PySem.W.fnOf "_law_told" "_law_told" (defArgs sTold) (defBody sTold) (defScope sTold) .none kV13 dc13 pm13 an13 cd13 ct13), sl13⟩)
    (c13 : PySem.W.codeIn K cd13 "_law_told" = true)
    (k13 : PySem.W.keepIn K (.ref f13) = true)
    (a14 : PySem.W.nsIn K mainGlobals "law" = some (some (.ref f14)))
    (l14 : K.lookup f14 = some ⟨oc14, od14, .func (PySem.W.fnOf "law" "law" (defArgs sLaw) (defBody sLaw) (defScope sLaw) .none kV14 dc14 pm14 an14 cd14 ct14), sl14⟩)
    (c14 : PySem.W.codeIn K cd14 "law" = true)
    (k14 : PySem.W.keepIn K (.ref f14) = true)
    (aC : PySem.W.nsIn K mainGlobals "Machine" = some (some (.ref C)))
    (pg : PySem.W.plainGet K C Str.empty = true)
    (hd : PySem.W.hasDictIn K C = true)
    (po : PySem.W.plainOver K C = true)
    (sa : PySem.W.findIn K (.ref C) "__setattr__" = some (some (.builtin "object.__setattr__")))
    (n_reads : PySem.W.findIn K (.ref C) "reads" = some none)
    (n_writes : PySem.W.findIn K (.ref C) "writes" = some none)
    (n_left : PySem.W.findIn K (.ref C) "left" = some none)
    (n_right : PySem.W.findIn K (.ref C) "right" = some none)
    (n_table : PySem.W.findIn K (.ref C) "table" = some none)
    (mk : PySem.W.makesIn K C = true)
    (aI : PySem.W.findIn K (.ref C) "__init__" = some (some (.ref f99)))
    (iI : PySem.W.isFn K (.ref f99) = true)
    (l99 : K.lookup f99 = some ⟨oc99, od99, .func (PySem.W.fnOf "__init__" "Machine.__init__" (defArgs sMach) (defBody sMach) (defScope sMach) .none kV99 dc99 pm99 an99 cd99 ct99), sl99⟩)
    (c99 : PySem.W.codeIn K cd99 "Machine.__init__" = true)
    (k99 : PySem.W.keepIn K (.ref f99) = true)
    (kc : PySem.W.keepIn K (.ref C) = true)
    (aE : PySem.W.nsIn K mainGlobals "MachineError" = some (some (.ref CE)))
    (lE : K.lookup CE = some (excClassObj nm q CE N bs bm true sn sub ab col dd m0 m1 m2 m3 m5 "ValueError.__new__"))
    (vE : PySem.HandSPX.refsVE bm = true)
    (saE : PySem.W.findIn K (.ref CE) "__setattr__" = some (some (.builtin "object.__setattr__")))
    (exE : PySem.W.subIn K (.ref CE) (.type "BaseException") = some true)
    (tyE : PySem.W.typeIn K (.ref CE) = some (.type "type"))
    (kE : PySem.W.keepIn K (.ref CE) = true)
    (nrE : PySem.W.findIn K (.ref CE) "reason" = some none)
    (moE : PySem.W.mroIn K CE (.ref CE) = some true)
    (any : PySem.W.nsIn K cStatics "thirdparty.any" = some none)
    (suE : PySem.W.ks_superIn K CE CE "__init__" = some (some (.builtin "ValueError.__init__")))
    (bE : PySem.W.subIn K (.ref CE) (.type "ValueError") = some true)
    (inE : PySem.W.findIn K (.ref CE) "__init__" = some (some (.ref fI)))
    (tiE : PySem.W.typeIn K (.ref fI) = some (.type "function"))
    (lI : K.lookup fI = some ⟨ocI, odI, .func (fdE dcI pmI anI cda ctI cc), slI⟩)
    (cI : PySem.W.codeIn K (.ref cda) "MachineError.__init__" = true)
    (lA : K.lookup cda = some ⟨ccl, cdd, .fields fvs, ccs⟩)
    (vA : fvs[2]? = some (.str file tf))
    (fA : ((P.main.file : Str) == file) = true)
    (lC : K.lookup cc = some ⟨clc, cld, .cell (some (.ref CE)), csl⟩)
    (tS : (P.main.scope.names.lookup ("super" : Str)).isSome = false)
    (isE : PySem.W.isClsIn K CE = true)
    (seE : PySem.W.subIn K (.ref CE) (.ref CE) = some true)
    (gaE : PySem.W.findIn K (.ref CE) "__getattribute__" = some (some (.builtin "BaseException.__getattribute__")))
    (ggE : PySem.W.findIn K (.ref CE) "__getattr__" = some none)
    (hdE : PySem.W.hasDictIn K CE = true)
    (clE : PySem.W.findIn K (.ref CE) "__class__" = some (some (.builtin "object.__class__")))
    (spE : PySem.W.specialIn K (.builtin "object.__class__") "__get__" = some (some (.builtin "getset_descriptor.__get__")))
    (tkE : PySem.W.takesIn K (.builtin "object.__class__") = some true)
    (obE : PySem.W.mroIn K CE (.type "object") = some true)
    (aFE : PySem.W.nsIn K mainGlobals "ForeaftError" = some (some (.ref FE)))
    (iFE : PySem.W.isClsIn K FE = true)
    (tFE : PySem.W.typeIn K (.ref FE) = some (.type "type"))
    (sFE : PySem.W.subIn K (.ref CE) (.ref FE) = some true)
    (aBE : PySem.W.nsIn K mainGlobals "BookError" = some (some (.ref BE)))
    (iBE : PySem.W.isClsIn K BE = true)
    (tBE : PySem.W.typeIn K (.ref BE) = some (.type "type"))
    (sBE : PySem.W.subIn K (.ref CE) (.ref BE) = some false)
    (z_isinstance : PySem.W.nsIn K mainGlobals "isinstance" = some none)
    (z_all : PySem.W.nsIn K mainGlobals "all" = some none)
    (z_len : PySem.W.nsIn K mainGlobals "len" = some none)
    (z_abs : PySem.W.nsIn K mainGlobals "abs" = some none)
    (z_range : PySem.W.nsIn K mainGlobals "range" = some none)
    (z_str : PySem.W.nsIn K mainGlobals "str" = some none)
    (z_int : PySem.W.nsIn K mainGlobals "int" = some none)
    (z_bool : PySem.W.nsIn K mainGlobals "bool" = some none)
    (z_list : PySem.W.nsIn K mainGlobals "list" = some none)
    (z_tuple : PySem.W.nsIn K mainGlobals "tuple" = some none)
    (z_ValueError : PySem.W.nsIn K mainGlobals "ValueError" = some none)
    (z_super : PySem.W.nsIn K mainGlobals "super" = some none)
    (gL : PySem.W.nsIn K mainGlobals "LETTERS" = some (some (.str lv lt)))
    (eL : lv = az)
    (g5 : PySem.W.nsIn K mainGlobals "MOST_LETTERS" = some (some (.int 5 t5)))
    (g40 : PySem.W.nsIn K mainGlobals "MOST_STATES" = some (some (.int 40 t40))) :
    ∃ fd : FuncData, (∀ (s : Shared) (u : Value), BindsTo s fd ⟨[u], []⟩ [("_law_script", u)]) ∧ ∀ base : Heap, K.In base → base.Ns mainGlobals mg → FnOk P w K mg base CX0 6 fa fd ["_law_script"] (spLaw K) := by
  have e := hfa.symm.trans (PySem.W.mg_of X G a14)
  cases e
  have T : Nm mg := ⟨PySem.W.mg_none_of X G z_isinstance, PySem.W.mg_none_of X G z_all, PySem.W.mg_none_of X G z_len, PySem.W.mg_none_of X G z_abs, PySem.W.mg_none_of X G z_range, PySem.W.mg_none_of X G z_str, PySem.W.mg_none_of X G z_int, PySem.W.mg_none_of X G z_bool, PySem.W.mg_none_of X G z_list, PySem.W.mg_none_of X G z_tuple, PySem.W.mg_none_of X G z_ValueError, ⟨_, PySem.W.mg_of X G gL, lt, by rw [eL]⟩, ⟨_, PySem.W.mg_of X G g5, t5, rfl⟩, ⟨_, PySem.W.mg_of X G g40, t40, rfl⟩⟩
  have F0 := fun_mk (st := sAlpha) l0 c0 k0
  have b0 := F0.binds (ps := ["thing"]) fun _ _ _ _ _ _ us hl => match us, hl with | [_], _ => rfl
  have d0 : Df K mg "is_alphabet" f0 := ⟨PySem.W.mg_of X G a0, k0⟩
  have F1 := fun_mk (st := sWord) l1 c1 k1
  have b1 := F1.binds (ps := ["alphabet", "thing"]) fun _ _ _ _ _ _ us hl => match us, hl with | [_, _], _ => rfl
  have d1 : Df K mg "is_word" f1 := ⟨PySem.W.mg_of X G a1, k1⟩
  have F2 := fun_mk (st := sRows) l2 c2 k2
  have b2 := F2.binds (ps := ["thing", "letters"]) fun _ _ _ _ _ _ us hl => match us, hl with | [_, _], _ => rfl
  have d2 : Df K mg "_are_rows" f2 := ⟨PySem.W.mg_of X G a2, k2⟩
  have F3 := fun_mk (st := sTab) l3 c3 k3
  have b3 := F3.binds (ps := ["thing", "left", "right", "letters", "writes"]) fun _ _ _ _ _ _ us hl => match us, hl with | [_, _, _, _, _], _ => rfl
  have d3 : Df K mg "_is_table" f3 := ⟨PySem.W.mg_of X G a3, k3⟩
  have F4 := fun_mk (st := sForm) l4 c4 k4
  have b4 := F4.binds (ps := ["machine"]) fun _ _ _ _ _ _ us hl => match us, hl with | [_], _ => rfl
  have d4 : Df K mg "form" f4 := ⟨PySem.W.mg_of X G a4, k4⟩
  have F5 := fun_mk (st := sCell) l5 c5 k5
  have b5 := F5.binds (ps := ["_law_script", "_law_k"]) fun _ _ _ _ _ _ us hl => match us, hl with | [_, _], _ => rfl
  have d5 : Df K mg "_law_cell" f5 := ⟨PySem.W.mg_of X G a5, k5⟩
  have F6 := fun_mk (st := sRow) l6 c6 k6
  have b6 := F6.binds (ps := ["_law_script", "_law_first", "_law_last"]) fun _ _ _ _ _ _ us hl => match us, hl with | [_, _, _], _ => rfl
  have d6 : Df K mg "_law_row" f6 := ⟨PySem.W.mg_of X G a6, k6⟩
  have F7 := fun_mk (st := sDraw) l7 c7 k7
  have b7 := F7.binds (ps := ["_law_box", "_law_many"]) fun _ _ _ _ _ _ us hl => match us, hl with | [_, _], _ => rfl
  have d7 : Df K mg "_law_draw" f7 := ⟨PySem.W.mg_of X G a7, k7⟩
  have F8 := fun_mk (st := sStates) l8 c8 k8
  have b8 := F8.binds (ps := ["_law_box", "_law_many", "_law_letters"]) fun _ _ _ _ _ _ us hl => match us, hl with | [_, _, _], _ => rfl
  have d8 : Df K mg "_law_states" f8 := ⟨PySem.W.mg_of X G a8, k8⟩
  have F9 := fun_mk (st := sMaker) l9 c9 k9
  have b9 := F9.binds (ps := ["_law_box", "_law_ins", "_law_outs", "_law_most"]) fun _ _ _ _ _ _ us hl => match us, hl with | [_, _, _, _], _ => rfl
  have d9 : Df K mg "_law_machine" f9 := ⟨PySem.W.mg_of X G a9, k9⟩
  have F10 := fun_mk (st := sLet) l10 c10 k10
  have b10 := F10.binds (ps := ["_law_box", "_law_many"]) fun _ _ _ _ _ _ us hl => match us, hl with | [_, _], _ => rfl
  have d10 : Df K mg "_law_alphabet" f10 := ⟨PySem.W.mg_of X G a10, k10⟩
  have F11 := fun_mk (st := sLForm) l11 c11 k11
  have b11 := F11.binds (ps := ["_law_m"]) fun _ _ _ _ _ _ us hl => match us, hl with | [_], _ => rfl
  have d11 : Df K mg "_law_form" f11 := ⟨PySem.W.mg_of X G a11, k11⟩
  have F12 := fun_mk (st := sSpoil) l12 c12 k12
  have b12 := F12.binds (ps := ["_law_box", "_law_m"]) fun _ _ _ _ _ _ us hl => match us, hl with | [_, _], _ => rfl
  have d12 : Df K mg "_law_spoiled" f12 := ⟨PySem.W.mg_of X G a12, k12⟩
  have F13 := fun_mk (st := sTold) l13 c13 k13
  have b13 := F13.binds (ps := ["_law_parts"]) fun _ _ _ _ _ _ us hl => match us, hl with | [_], _ => rfl
  have d13 : Df K mg "_law_told" f13 := ⟨PySem.W.mg_of X G a13, k13⟩
  have F14 := fun_mk (st := sLaw) l14 c14 k14
  have F99 := fun_mk (st := sMach) l99 c99 k99
  have b99 := F99.binds (ps := ["self", "reads", "writes", "left", "right", "table"]) fun _ _ _ _ _ _ us hl => match us, hl with | [_, _, _, _, _, _], _ => rfl
  have M : MCls K C := ⟨⟨pg, hd, po, sa⟩, n_reads, n_writes, n_left, n_right, n_table⟩
  have mkC : Mk K C f99 := ⟨mk, aI, iI, kc⟩
  have gC := PySem.W.mg_of X G aC
  have ox : OexC K CE := ⟨⟨nm, q, N, bs, bm, sn, sub, ab, col, dd, m0, m1, m2, m3, m5, lE, vE⟩, saE, exE, tyE, kE⟩
  have S : SupT P K mg CE fI (fdE dcI pmI anI cda ctI cc) := ⟨ox, nrE, ⟨_, _, _, _, _, _, _, _, _, rfl, lI, cI, ⟨_, _, _, _, _, _, lA, vA, fA⟩, _, _, _, lC⟩, moE, PySem.W.mg_none_of X G z_super, tS, any, suE, bE⟩
  have bI : Binds K (fdE dcI pmI anI cda ctI cc) ["self", "reason"] [] := .all fun us hl => match us, hl with | [_, _], _ => rfl
  have TE : TErr K mg CE := ⟨PySem.W.mg_of X G aE, exm_self exE isE tyE seE, ⟨gaE, ggE, exE, hdE⟩, nrE, ⟨gaE, ggE, exE, hdE, clE, spE, tkE, obE⟩, ⟨FE, PySem.W.mg_of X G aFE, kit_own seE iFE tFE sFE⟩, kit_ve bE, ⟨BE, PySem.W.mg_of X G aBE, kit_own seE iBE tBE sBE⟩⟩
  refine ⟨PySem.W.fnOf "law" "law" (defArgs sLaw) (defBody sLaw) (defScope sLaw) .none kV14 dc14 pm14 an14 cd14 ct14, fun s v => .of_eq rfl, fun base _ _ => ?_⟩
  have C0 : Cal P w K mg base "is_alphabet" CX0 1 ["thing"] spAlpha := ⟨_, _, d0, ok_alpha F0 T, b0⟩
  have C1 : Cal P w K mg base "is_word" CX0 1 ["alphabet", "thing"] spWord := ⟨_, _, d1, ok_word F1 T, b1⟩
  have C2 : Cal P w K mg base "_are_rows" CX0 1 ["thing", "letters"] spRows := ⟨_, _, d2, ok_rows F2 T, b2⟩
  have C3 : Cal P w K mg base "_is_table" CX0 2 ["thing", "left", "right", "letters", "writes"] spTab := ⟨_, _, d3, ok_tab F3 T d1 (ok_word F1 T) b1, b3⟩
  have C4 : Cal P w K mg base "form" CX0 1 ["machine"] (spForm C) := ⟨_, _, d4, ok_form F4 T M, b4⟩
  have C5 : Cal P w K mg base "_law_cell" CX0 1 ["_law_script", "_law_k"] (spCell K) := ⟨_, _, d5, ok_cell F5 T, b5⟩
  have C6 : Cal P w K mg base "_law_row" CX0 2 ["_law_script", "_law_first", "_law_last"] (spRow K) := ⟨_, _, d6, ok_row F6 T C5, b6⟩
  have C7 : Cal P w K mg base "_law_draw" CX0 1 ["_law_box", "_law_many"] spDraw := ⟨_, _, d7, ok_draw F7 T, b7⟩
  have C8 : Cal P w K mg base "_law_states" CX0 2 ["_law_box", "_law_many", "_law_letters"] spStates := ⟨_, _, d8, ok_states F8 T C7, b8⟩
  have C9 : Cal P w K mg base "_law_machine" CX0 3 ["_law_box", "_law_ins", "_law_outs", "_law_most"] spMaker := ⟨_, _, d9, ok_maker F9 T C7 C8, b9⟩
  have C10 : Cal P w K mg base "_law_alphabet" CX0 2 ["_law_box", "_law_many"] spLet := ⟨_, _, d10, ok_let F10 C7, b10⟩
  have C11 : Cal P w K mg base "_law_form" CX0 1 ["_law_m"] spLForm := ⟨_, _, d11, ok_lform F11 T, b11⟩
  have C12 : Cal P w K mg base "_law_spoiled" CX0 2 ["_law_box", "_law_m"] spSpoil := ⟨_, _, d12, ok_spoil F12 T C7, b12⟩
  have X2 : ECls P w K mg base CE := ⟨ox, TE.gE, fI, _, inE, tiE, ok_err S, bI⟩
  have GM := ok_mach F99 T M X2 C0 C2 C3
  have C13 : Cal P w K mg base "_law_told" CX0 5 ["_law_parts"] spTold := ⟨_, _, d13, ok_told F13 T TE mkC gC GM b99 C4, b13⟩
  exact ok_law F14 T M mkC gC GM b99 C6 C7 C10 C9 C4 C11 C12 C13
end Fk
open PySem PySem.W PyProof.Rows
set_option maxRecDepth 100000 in
set_option maxHeartbeats 0 in
theorem PySem.Challenge.cw_foreaft_k02_machines_are_checked_holds : PySem.Challenge.rw_foreaft_k02_machines_are_checked.Holds := by
  w_on; o_law; k_head; (case hw => w_witness2)
  k_fill
  refine L2.walk_ofK (l := PySem.Challenge.rw_foreaft_k02_machines_are_checked) (n := 63) (k := 6) (CX := L2.CX0) (sp := Fk.spLaw) (x := "_law_script") rfl (by decide) rfl ⟨rfl, by decide, by decide⟩ (fun w h Y => PySem.W.kIn_of Y) ?F (fun K H a ns _ _ hS => ⟨a, ns, rfl, hS, fun _ => rfl⟩) (fun _ _ _ _ z => z)
  case F =>
    intro w mg fa h KX G hmg
    refine' Fk.all_mk KX G hmg ?a0 ?l0 ?c0 ?k0 ?a1 ?l1 ?c1 ?k1 ?a2 ?l2 ?c2 ?k2 ?a3 ?l3 ?c3 ?k3 ?a4 ?l4 ?c4 ?k4 ?a5 ?l5 ?c5 ?k5 ?a6 ?l6 ?c6 ?k6 ?a7 ?l7 ?c7 ?k7 ?a8 ?l8 ?c8 ?k8 ?a9 ?l9 ?c9 ?k9 ?a10 ?l10 ?c10 ?k10 ?a11 ?l11 ?c11 ?k11 ?a12 ?l12 ?c12 ?k12 ?a13 ?l13 ?c13 ?k13 ?a14 ?l14 ?c14 ?k14 ?aC ?pg ?hd ?po ?sa ?n_reads ?n_writes ?n_left ?n_right ?n_table ?mk ?aI ?iI ?l99 ?c99 ?k99 ?kc ?aE ?lE ?vE ?saE ?exE ?tyE ?kE ?nrE ?moE ?any ?suE ?bE ?inE ?tiE ?lI ?cI ?lA ?vA ?fA ?lC ?tS ?isE ?seE ?gaE ?ggE ?hdE ?clE ?spE ?tkE ?obE ?aFE ?iFE ?tFE ?sFE ?aBE ?iBE ?tBE ?sBE ?z_isinstance ?z_all ?z_len ?z_abs ?z_range ?z_str ?z_int ?z_bool ?z_list ?z_tuple ?z_ValueError ?z_super ?gL ?eL ?g5 ?g40
    (case a0 => k_is)
    (case l0 => k_is)
    (case c0 => k_is)
    (case k0 => k_is)
    (case a1 => k_is)
    (case l1 => k_is)
    (case c1 => k_is)
    (case k1 => k_is)
    (case a2 => k_is)
    (case l2 => k_is)
    (case c2 => k_is)
    (case k2 => k_is)
    (case a3 => k_is)
    (case l3 => k_is)
    (case c3 => k_is)
    (case k3 => k_is)
    (case a4 => k_is)
    (case l4 => k_is)
    (case c4 => k_is)
    (case k4 => k_is)
    (case a5 => k_is)
    (case l5 => k_is)
    (case c5 => k_is)
    (case k5 => k_is)
    (case a6 => k_is)
    (case l6 => k_is)
    (case c6 => k_is)
    (case k6 => k_is)
    (case a7 => k_is)
    (case l7 => k_is)
    (case c7 => k_is)
    (case k7 => k_is)
    (case a8 => k_is)
    (case l8 => k_is)
    (case c8 => k_is)
    (case k8 => k_is)
    (case a9 => k_is)
    (case l9 => k_is)
    (case c9 => k_is)
    (case k9 => k_is)
    (case a10 => k_is)
    (case l10 => k_is)
    (case c10 => k_is)
    (case k10 => k_is)
    (case a11 => k_is)
    (case l11 => k_is)
    (case c11 => k_is)
    (case k11 => k_is)
    (case a12 => k_is)
    (case l12 => k_is)
    (case c12 => k_is)
    (case k12 => k_is)
    (case a13 => k_is)
    (case l13 => k_is)
    (case c13 => k_is)
    (case k13 => k_is)
    (case a14 => k_is)
    (case l14 => k_is)
    (case c14 => k_is)
    (case k14 => k_is)
    (case aC => k_is)
    (case pg => k_is)
    (case hd => k_is)
    (case po => k_is)
    (case sa => k_is)
    (case n_reads => k_is)
    (case n_writes => k_is)
    (case n_left => k_is)
    (case n_right => k_is)
    (case n_table => k_is)
    (case mk => k_is)
    (case aI => k_is)
    (case iI => k_is)
    (case l99 => k_is)
    (case c99 => k_is)
    (case k99 => k_is)
    (case kc => k_is)
    (case aE => k_is)
    (case lE => k_is)
    (case vE => decide +kernel)
    (case saE => k_is)
    (case exE => k_is)
    (case tyE => k_is)
    (case kE => k_is)
    (case nrE => k_is)
    (case moE => k_is)
    (case any => k_is)
    (case suE => ks_is)
    (case bE => k_is)
    (case inE => k_is)
    (case tiE => k_is)
    (case lI => k_is)
    (case cI => k_is)
    (case lA => k_is)
    (case vA => rfl)
    (case fA => decide +kernel)
    (case lC => k_is)
    (case tS => decide +kernel)
    (case isE => k_is)
    (case seE => k_is)
    (case gaE => k_is)
    (case ggE => k_is)
    (case hdE => k_is)
    (case clE => k_is)
    (case spE => k_is)
    (case tkE => k_is)
    (case obE => k_is)
    (case aFE => k_is)
    (case iFE => k_is)
    (case tFE => k_is)
    (case sFE => k_is)
    (case aBE => k_is)
    (case iBE => k_is)
    (case tBE => k_is)
    (case sBE => k_is)
    (case z_isinstance => k_is)
    (case z_all => k_is)
    (case z_len => k_is)
    (case z_abs => k_is)
    (case z_range => k_is)
    (case z_str => k_is)
    (case z_int => k_is)
    (case z_bool => k_is)
    (case z_list => k_is)
    (case z_tuple => k_is)
    (case z_ValueError => k_is)
    (case z_super => k_is)
    (case gL => k_is)
    (case eL => first | rfl | decide +kernel)
    (case g5 => k_is)
    (case g40 => k_is)
