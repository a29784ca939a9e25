import PyProof.Rows.All
import Wide.All
import OpenK.AllK
import Wide.FinOn
import HandS.ForExc
import HandS.ExcInit
import HandS.Defaults
import HandS.MakeKwOnly
import HandS.HotCalls
import HandS.ExcField
import HandS.ExcIs
import HandS.IsInst
import HandS.TryMany
import KE.KExcIs
import HandS.ForMost
import HandS.Evl
import HandS.EndBits
import HandS.Wide
import HandS.TupAny
import PySem.Challenge.RW_donebytwo_k98_whole_errors
set_option Elab.async false
set_option linter.all false
set_option maxRecDepth 100000
set_option maxHeartbeats 4000000
namespace XcK
open PySem PySem.W PySem.Calls PyProof.Rows PySem.HandSPX
section
variable {M : Model} {A : Around} {E : Value → Shared → Prop} {h : Heap} {g : Array GenState} {d : Drawn} {t : Nat} {os : OsState}
variable {nm q : Str} {C N : Addr} {bs bm bmB : List Value} {hdct : Bool} {sn : List Str} {sub : List Value} {ab : Bool} {col : Option Bool} {dd : Option Addr} {k0 k1 k2 k3 k5 : Option Value} {B newId initId : String}
/-- the look ahead of B.__new__(C, .., k = v, ..) -/
theorem checkNewKw (F : ExcBaseFacts B newId initId bmB) (hT : ∀ Y : String, bm.contains (.type Y) = bmB.contains (.type Y)) {rest : List Value} {kw : List (Str × Value)} {Q : Unit → Shared → Prop}
    (hC : h.get? C = some (excClassObj nm q C N bs bm hdct sn sub ab col dd k0 k1 k2 k3 k5 newId))
    (hq : Q () ⟨h, g, d, t, os⟩) : wpAny M A (checkBuiltinCall newId ⟨.ref C :: rest, kw⟩) Q E ⟨h, g, d, t, os⟩ := by
  have hB : (Value.ref C :: bm).contains (.type B) = true := by
    rw [List.contains_cons, hT, F.hasB]
    exact Bool.or_true _
  have hS := F.noStar
  simp only [checkBuiltinCall, F.newKind, F.newSplit, F.newRow]
  repeat (first
    | refine wpAny_loadPart_at hC ?_
    | (refine wpAny_isSubtype_exc hC ?_
       rw [hB])
    | refine wpAny_staticBase_exc hC ?_
    | refine wpAny_madeBy_exc hC ?_
    | simp only [bne_self_eq_false, Bool.false_eq_true, if_false]
    | wp_step)
  exact hq
end
section
variable {prog : Program} {w : World} {A : Around} {E : Value → Shared → Prop} {R : Result → Shared → Prop} {h : Heap} {g : Array GenState} {d : Drawn} {t : Nat} {os : OsState}
variable {nm q : Str} {C N : Addr} {bs bm bmB : List Value} {hdct : Bool} {sn : List Str} {sub : List Value} {ab : Bool} {col : Option Bool} {dd : Option Addr} {k0 k1 k2 k3 k5 : Option Value} {B newId initId : String}
/-- B.__new__(C, .., k = v, ..): a new exception at the second new address -/
theorem newKw (F : ExcBaseFacts B newId initId bmB) (hT : ∀ Y : String, bm.contains (.type Y) = bmB.contains (.type Y)) {rest : List Value} {kw : List (Str × Value)}
    (hC : h.get? C = some (excClassObj nm q C N bs bm hdct sn sub ab col dd k0 k1 k2 k3 k5 newId)) (hrest : rest.length ≤ sizeLine)
    (hq : R (.ok (.ret (.ref (h.objs.size + 1)))) ⟨(h.push (PySem.W.kdv_tup rest)).push (excO C h.objs.size), g, d, t, os⟩) :
    codeAny (model prog w) A (.builtin newId ⟨.ref C :: rest, kw⟩) R ⟨h, g, d, t, os⟩ := by
  have hE := F.ends
  have c1 : (Value.ref C :: bm).contains (.type B) = true := by
    rw [List.contains_cons, hT, F.hasB]
    exact Bool.or_true _
  have c2 : (Value.ref C :: bm).contains (.type "AttributeError") = false := by
    rw [List.contains_cons, hT, F.noAttr]
    rfl
  have c3 : (Value.ref C :: bm).contains (.type "NameError") = false := by
    rw [List.contains_cons, hT, F.noName]
    rfl
  refine codeAny_builtinAt F.entry ?_
  unfold Builtin.«BaseException.__new__»
  refine PySem.wpAt_bind ?_
  show PySem.wpAt _ _ _ (stack >>= _) _ _ _
  refine PySem.wpAt_bind (PySem.wpAt_stack fun p below => PySem.wpAt_of_wpAny ?_)
  wp_walk
  refine PySem.wpAt_of_wpAny ?_
  rw [F.owner]
  repeat (first
    | with_reducible refine wpAny_madeHere_exc F.canon hC ?_
    | with_reducible refine wpAny_loadPart_at hC ?_
    | (with_reducible refine wpAny_isSubtype_exc hC ?_
       first | rw [c1] | rw [c2] | rw [c3])
    | wp_step)
  show R _ _
  rw [Heap.size_push]
  exact hq
theorem typeCallKw (F : ExcBaseFacts B newId initId bmB) (hT : ∀ Y : String, bm.contains (.type Y) = bmB.contains (.type Y)) {rest : List Value} {kw : List (Str × Value)} {fI : Addr} {Q : Fin → Shared → Prop}
    (hC : h.get? C = some (excClassObj nm q C N bs bm hdct sn sub ab col dd k0 k1 k2 k3 k5 newId)) (hrest : rest.length ≤ sizeLine)
    (hi : W.Looks (model prog w) h (typeLookup (.ref C) "__init__") (some (.ref fI))) (hb : ∀ self, W.Looks (model prog w) h (bindSpecial (.ref fI) self) (.ref fI, [self]))
    (hq : codeAny (model prog w) A (.call (.ref fI) ⟨.ref (h.objs.size + 1) :: rest, kw⟩)
      (fun r s' => match r with
        | .ok (.ret v) => v = .none ∧ Q (.done (.ret (.ref (h.objs.size + 1)))) s'
        | .ok _ => False
        | .error e => E e s')
      ⟨(h.push (W.kdv_tup rest)).push (excO C h.objs.size), g, d, t, os⟩) :
    wpAny (model prog w) A (Builtin.«type.__call__» ⟨.ref C :: rest, kw⟩) Q E ⟨h, g, d, t, os⟩ := by
  repeat (first
    | with_reducible refine wpAny_loadPart_at hC ?_
    | with_reducible refine wpAny_madeBy_exc hC ?_
    | wp_step)
  refine codeAny_call_builtin_code (Code.quiet_builtin _ F.quiet) (checkNewKw F hT hC ?_)
  refine newKw F hT hC hrest ?_
  show wpAny _ _ _ _ _ _
  have k : ∀ b o, h.get? b = some o → ((h.push (W.kdv_tup rest)).push (excO C h.objs.size)).get? b = some o := fun b o e =>
    Heap.get?_push_of_some _ (Heap.get?_push_of_some _ e)
  have hC1 := k _ _ hC
  have hget : ((h.push (W.kdv_tup rest)).push (excO C h.objs.size)).get? (h.objs.size + 1) = some (excO C h.objs.size) := by
    heap_get
  have c4 : (Value.ref C :: bm).contains (.ref C) = true := by simp
  have i1 := hi.keeps k
  have b1 := (hb (.ref (h.objs.size + 1))).keeps k
  unfold isInstance
  repeat (first
    | with_reducible refine wpAny_loadPart_at hget ?_
    | (with_reducible refine wpAny_isSubtype_exc hC1 ?_
       rw [c4])
    | wp_step)
  show wpAny _ _ (typeLookup (.ref C) _) _ _ _
  refine i1.at ?_
  refine wpAny_holding (wpAny_bind (b1.at ?_))
  refine wpAny_bind (wpAny_call (codeAny_mono hq fun r s' z => ?_))
  rcases r with e | (v | _ | _ | _)
  · exact z
  · exact z.elim
  · exact z.elim
  · exact z.elim
  · obtain ⟨rfl, z⟩ := z
    first
      | exact wpAny_pure (wpAny_pure z)
      | (wp_walk
         exact z)
theorem checkTypeCallKw {M : Model} {rest : List Value} {kw : List (Str × Value)} {Q : Unit → Shared → Prop} (hC : h.get? C = some (excClassObj nm q C N bs bm hdct sn sub ab col dd k0 k1 k2 k3 k5 newId))
    (hq : Q () ⟨h, g, d, t, os⟩) : wpAny M A (checkBuiltinCall "type.__call__" ⟨.ref C :: rest, kw⟩) Q E ⟨h, g, d, t, os⟩ := by
  have f3 := tc_sub
  have hTy : (⟨h, g, d, t, os⟩ : Shared).TypeIs (.ref C) "type" := ⟨_, hC, rfl⟩
  simp only [checkBuiltinCall, tc_kind, tc_split]
  repeat (any_goals (first
    | assumption
    | with_reducible refine wpAny_loadPart_at hC ?_
    | with_reducible refine wpAny_onRaise ?_
    | with_reducible refine wpAny_map ?_
    | wp_step))
/-- C(.., k = v, ..) of an own exception class at C whose own __init__ is the def at fI -/
theorem callKw (F : ExcBaseFacts B newId initId bmB) (hT : ∀ Y : String, bm.contains (.type Y) = bmB.contains (.type Y)) {rest : List Value} {kw : List (Str × Value)} {fI : Addr}
    (hC : h.get? C = some (excClassObj nm q C N bs bm hdct sn sub ab col dd k0 k1 k2 k3 k5 newId)) (hrest : rest.length ≤ sizeLine)
    (hi : W.Looks (model prog w) h (typeLookup (.ref C) "__init__") (some (.ref fI))) (hb : ∀ self, W.Looks (model prog w) h (bindSpecial (.ref fI) self) (.ref fI, [self]))
    (hq : codeAny (model prog w) (A.under (.builtin "type.__call__" ⟨.ref C :: rest, kw⟩)) (.call (.ref fI) ⟨.ref (h.objs.size + 1) :: rest, kw⟩) (W.InitBack (h.objs.size + 1) R)
      ⟨(h.push (W.kdv_tup rest)).push (excO C h.objs.size), g, d, t, os⟩) :
    codeAny (model prog w) A (.call (.ref C) ⟨rest, kw⟩) R ⟨h, g, d, t, os⟩ := by
  have f1 := tc_lookup
  have f2 := tc_bind (.ref C)
  have hTy : (⟨h, g, d, t, os⟩ : Shared).TypeIs (.ref C) "type" := ⟨_, hC, rfl⟩
  refine codeAny_of_tree ?_
  show wpAny _ _ (callAny (.ref C) _) _ _ _
  repeat (any_goals (first
    | assumption
    | with_reducible refine wpAny_loadPart_at hC ?_
    | wp_step))
  refine ⟨rfl, ?_⟩
  refine codeAny_call_builtin_at (Code.quiet_builtin _ (by decide +kernel)) entry_typeCall (checkTypeCallKw hC (typeCallKw F hT hC hrest hi hb ?_))
  refine codeAny_mono hq fun r s' z => ?_
  rcases r with e | (v | _ | _ | _) <;> exact z
end
end XcK
set_option Elab.async false
set_option linter.all false
set_option maxRecDepth 100000
set_option maxHeartbeats 4000000
namespace XcV
open PySem PySem.Spec PyProof.Rows L2
abbrev St := L2.St
/-! An exception of an own class, held as a value: made by position or by names; its fields read; isinstance of it. It is tracked (exo, exd), or pinned (in an except suite). -/
/-- C(e, ..) -/
def tMkP (C : Addr) (sp : Sp) (t : TA) : TE := fun σ H Q => t σ H fun vs H1 => vs.length ≤ 1000 ∧ ∀ a, H1 a = none →
  sp (.ref a :: vs) (upd H1 a (exo a C none)) (fun v H2 => v = .non ∧ Q (.ref a) H2) (fun _ _ _ => False)
/-- C(k = v, ..) -/
def tMkW (C : Addr) (m : Nat) (sp : Sp) (gV : List V → List V → List V) (t : TA) : TE := fun σ H Q => t σ H fun zs H1 => zs.length = m ∧ ∀ a, H1 a = none →
  sp (gV [.ref a] zs) (upd H1 a (exo a C none)) (fun v H2 => v = .non ∧ Q (.ref a) H2) (fun _ _ _ => False)
/-- the class and its __init__ -/
structure XInit (K : PySem.W.Frag) (C fI : Addr) : Prop where
  T : OexC K C
  iC : PySem.W.findIn K (.ref C) "__init__" = some (some (.ref fI))
  tI : PySem.W.typeIn K (.ref fI) = some (.type "function")
section
variable {X : Cx} {CX : CXT} {k : Nat} {C fI : Addr} {fd : FuncData} {ps ks : List Str} {sp : Sp} {x : Str} {p pos : Pos} {e : Expr} {es : List Expr} {kws : List Keyword} {t : TA} {g : List Value → List Value → List Value} {gV : List V → List V → List V}
theorem run_mkX {pins : List (Addr × Obj)} {σ : St} {H : Hp} {s : Shared} {Q : VK} {us bs : List Value} {kw : List (Str × Value)} {ys : List V} (M : XInit X.K C fI) (F : FnOk X.prog X.w X.K X.mg X.base CX k fI fd ps sp) (hr : Room (k + 1) X.A)
    (hx : Passes CX X (fun _ _ _ => False)) (I : Inv X pins σ H s) (hus : us.length ≤ sizeLine)
    (hb : ∀ s1 : Shared, X.K.In s1.heap → BindsTo s1 fd ⟨Value.ref (s.heap.objs.size + 1) :: us, kw⟩ (ps.zip bs)) (r : Vals ys bs)
    (h : sp ys (upd H (s.heap.objs.size + 1) (exo (s.heap.objs.size + 1) C none)) (fun v H2 => v = .non ∧ Q (.ref (s.heap.objs.size + 1)) H2) (fun _ _ _ => False)) :
    wpAny (model X.prog X.w) X.A (call (.ref C) us kw) (EP X pins σ Q) X.xe s := by
  obtain ⟨nm, q, N, bs', bm, sn, sub, ab, col, dd, k0, k1, k2, k3, k5, hC, hbm⟩ := M.T.cls
  have KI := I.kIn
  obtain ⟨hp, g, dr, tk, os⟩ := s
  have old : ∀ b o, hp.get? b = some o → ((hp.push (PySem.W.kdv_tup us)).push (PySem.HandSPX.excO C hp.objs.size)).get? b = some o := fun b o z =>
    Heap.get?_push_of_some _ (Heap.get?_push_of_some _ z)
  have hget : ((hp.push (PySem.W.kdv_tup us)).push (PySem.HandSPX.excO C hp.objs.size)).get? (hp.objs.size + 1) = some (PySem.HandSPX.excO C hp.objs.size) := by
    heap_get
  have I2 : Inv X pins σ (upd H (hp.objs.size + 1) (exo (hp.objs.size + 1) C none)) ⟨(hp.push (PySem.W.kdv_tup us)).push (PySem.HandSPX.excO C hp.objs.size), g, dr, tk, os⟩ :=
    I.laid (t' := tk) (a := hp.objs.size + 1) (o := exo (hp.objs.size + 1) C none) old (Nat.le_succ _) (exo_ok hget)
  refine wpAny_call (XcK.callKw PySem.F.excBase_ValueError (fun Y => PySem.HandSPX.refsVE_contains Y bm hbm) (KI _ _ hC) hus (PySem.W.looks_findIn KI M.iC) (fun self => PySem.W.bind_fn KI self M.tI) ?_)
  refine codeAny_mono (F.run _ X.stack _ _ ⟨Value.ref (hp.objs.size + 1) :: us, kw⟩ bs ys _ (fun _ _ _ => False) (hr.make C us kw) (I2.env0.make C us kw) (hb _ I2.kIn) r h) fun rr s' hq => ?_
  cases rr with
  | error er => exact hx pins σ _ _ er s' I2 hq
  | ok fl =>
    cases fl with
    | ret u =>
      obtain ⟨v, H', I3, rv, ev, q3⟩ := I2.after hq
      subst ev
      exact ⟨rv, ⟨V.ref (hp.objs.size + 1), H', I3, rfl, q3⟩⟩
    | next => exact False.elim hq
    | brk => exact False.elim hq
    | cont => exact False.elim hq
theorem pe_mkP (M : XInit X.K C fI) (F : FnOk X.prog X.w X.K X.mg X.base CX k fI fd ps sp) (hr : Room (k + 1) X.A) (hb : Binds X.K fd ps []) (hx : Passes CX X (fun _ _ _ => False)) (hg : Gl X x) (hm : X.mg x = some (.ref C)) (ha : PA X (e :: es) t)
    (hdb : (x == ("__debug__" : Str)) = false := by decide) (he : starEach (e :: es) X.env = (false, eval e X.env) :: starEach es X.env := by rfl) (hpl : (backTo pos (starEach es X.env)).any (·.1) = false := by rfl) :
    PE X (.Call (.Name x p) (e :: es) [] pos) (tMkP C sp t) := by
  refine ⟨fun pins s σ H Q I h => ?_⟩
  refine wpAny_Call_Name_kw (ld_glob I hg hm ?_ hdb)
  refine PySem.W.callWith_K (h₀ := X.base) I.ok.mod.kin M.T.kC (thn (ha.run pos pins s σ H _ I h) fun us s1 ⟨vs, H1, I1, r1, hz, q1⟩ => ⟨I1.kIn, ?_⟩) he hpl
  have hq := q1 (s1.heap.objs.size + 1) (I1.hok.fresh (Nat.le_succ _))
  have r2 : Vals (V.ref (s1.heap.objs.size + 1) :: vs) (Value.ref (s1.heap.objs.size + 1) :: us) := .cons rfl r1
  have hl : (Value.ref (s1.heap.objs.size + 1) :: us).length = ps.length := by
    rw [← r2.length]
    exact F.len _ _ _ _ hq
  have hus : us.length ≤ sizeLine := by
    rw [← Paired.length r1, sizeLine_eq]
    omega
  refine run_mkX (bs := Value.ref (s1.heap.objs.size + 1) :: us) M F hr hx I1 hus (fun s2 K2 => ?_) r2 hq
  have b := hb s2 (Value.ref (s1.heap.objs.size + 1) :: us) K2 (by rw [List.append_nil]; exact hl)
  rw [List.append_nil] at b
  exact b
theorem pe_mkW (M : XInit X.K C fI) (F : FnOk X.prog X.w X.K X.mg X.base CX k fI fd ps sp) (hr : Room (k + 1) X.A) (hb : KBn X.K fd ps 1 ks g gV) (hx : Passes CX X (fun _ _ _ => False)) (hg : Gl X x) (hm : X.mg x = some (.ref C)) (hkw : PK X kws t)
    (hall : (backToKw pos (keywordEach kws X.env)).all (·.1.isSome) = true := by rfl) (hks : (backToKw pos (keywordEach kws X.env)).filterMap (·.1) = ks := by rfl) (hdb : (x == ("__debug__" : Str)) = false := by decide)
    (hpl : ((backTo pos (starEach [] X.env)).any (·.1) || (backToKw pos (keywordEach kws X.env)).any (·.1.isNone)) = false := by rfl) :
    PE X (.Call (.Name x p) [] kws pos) (tMkW C ks.length sp gV t) := by
  refine ⟨fun pins s σ H Q I h => ?_⟩
  refine wpAny_Call_Name_kw (ld_glob I hg hm ?_ hdb)
  refine PySem.W.callWith_KW0 (h₀ := X.base) I.ok.mod.kin M.T.kC hall ?_ hpl
  refine thn (hkw.run pos pins s σ H _ I h) fun ws s1 ⟨zs, H1, I1, rz, l1, q1⟩ => ⟨I1.kIn, ?_⟩
  rw [hks]
  have hq := q1 (s1.heap.objs.size + 1) (I1.hok.fresh (Nat.le_succ _))
  exact run_mkX (us := []) M F hr hx I1 (Nat.zero_le _) (fun s2 K2 => hb.to s2 [Value.ref (s1.heap.objs.size + 1)] ws K2 rfl (rz.length.symm.trans l1)) (hb.rel (vs := [V.ref (s1.heap.objs.size + 1)]) (us := [Value.ref (s1.heap.objs.size + 1)]) (.cons rfl .nil) rz) hq
end
/-! ### the exception's own object -/
/-- where an exception of the class at C with the fields fs stands: tracked, or pinned -/
def ErrAt (X : Cx) (H : Hp) (a C : Addr) (fs : List (Str × V)) : Prop :=
  (∃ d, H a = some (exo a C (some d)) ∧ H d = some (exd d fs)) ∨
  (∃ (oe : Obj) (d : Addr), (a, oe) ∈ X.pn ∧ Zc (.ref C) (some d) oe ∧ (∃ vs, oe.data = .fields vs) ∧ H d = some (.xd fs))
section
variable {X : Cx} {pins : List (Addr × Obj)} {σ : St} {H : Hp} {s : Shared} {a C : Addr} {fs : List (Str × V)} {e : Expr} {te : TE} {pos : Pos} {f : Str}
theorem ErrAt.inst (I : Inv X pins σ H s) (h : ErrAt X H a C fs) : ∃ (ox od : Obj) (d : Addr) (mA : Str → Option Value), PySem.W.InstAt s.heap a ox C (some od) ∧ s.heap.get? d = some od ∧ s.heap.Ns1 d mA ∧ (∀ n, RelO (fs.lookup n) (mA n)) := by
  rcases h with ⟨d, ea, ed⟩ | ⟨oe, d, hp, hz, ⟨vs, hd⟩, ed⟩
  · obtain ⟨t1, ho⟩ := exo_at I.hok ea
    obtain ⟨mA, hns, rel⟩ := exd_at I.hok ed
    obtain ⟨od, es, ep, hod, rest⟩ := id hns
    exact ⟨_, od, d, mA, ⟨ho, rfl, rfl, hod⟩, hod, hns, rel⟩
  · obtain ⟨hget, _⟩ := I.pin (a, oe) (List.mem_append_left _ hp)
    have ob : ObjOk X.prog X.w H s.heap d (.xd fs) := I.hok d _ ed
    obtain ⟨mA, hns, rel⟩ := ob
    obtain ⟨od, es, ep, hod, rest⟩ := id hns
    exact ⟨oe, od, d, mA, ⟨hget, hz.1, by unfold PySem.W.notCls; rw [hd] <;> rfl, by rw [hz.2]; exact hod⟩, hod, hns, rel⟩
/-- e.f, e an exception -/
def tErrF (X : Cx) (f : Str) (te : TE) : TE := fun σ H Q => te σ H fun x H1 => ∃ (a C : Addr) (fs : List (Str × V)) (v : V), x = .ref a ∧ ErrAt X H1 a C fs ∧ XfC X.K C ∧ PySem.W.findIn X.K (.ref C) f = some none ∧ fs.lookup f = some v ∧ Q v H1
theorem pe_errF (he : PE X e te) (hb : attributeBase e f X.env (eval e X.env) = eval e X.env := by rfl) : PE X (.Attribute e f pos) (tErrF X f te) := by
  refine ⟨fun pins s σ H Q I h => ?_⟩
  refine attr_of hb (thn (he.run pins s σ H _ I h) fun u s1 hh => ?_)
  obtain ⟨x, H1, I1, rx, a, C, fs, v, ex, eA, T, hno, l, q⟩ := hh
  subst ex
  obtain rfl : u = Value.ref a := rx
  obtain ⟨ox, od, d, mA, J, hod, hns, rel⟩ := eA.inst I1
  obtain ⟨od2, ho2, hl⟩ := lookIn_ns hns
  have eo : od2 = od := Option.some.inj (ho2.symm.trans hod)
  subst eo
  obtain ⟨u, hu, ru⟩ := RelO.some_of (v := v) (o := mA f) (by rw [← l]; exact rel f)
  exact HandSPX.exc_get I1.kIn J T.ga T.gg T.exC (PySem.W.findObj_own T.hdC hno rfl (by rw [hl, hu])) (handed_of ru) ⟨v, H1, I1.tok _, ru, q⟩
/-- isinstance(e, c), e an exception -/
def rErrIs (X : Cx) : List V → Hp → VK → Prop := fun xs H Q => ∃ (a C : Addr) (fs : List (Str × V)) (c : V) (cv : Value) (b : Bool), xs = [.ref a, c] ∧ ErrAt X H a C fs ∧ ExcC X.K C ∧ (∀ u, RelV c u → u = cv) ∧ PySem.W.kitOne X.K (.ref C) cv = some b ∧ Q (.bl b) H
theorem call_errIs : CallR X (.builtin "isinstance") (rErrIs X) := by
  intro pins s σ H xs us Q I r h
  obtain ⟨a, C, fs, c, cv, b, rfl, eA, T, hcv, e, q⟩ := h
  obtain ⟨u1, u2, rfl, r1, r2⟩ := vals2 r
  obtain rfl : u1 = Value.ref a := r1
  have ec := hcv _ r2
  subst ec
  obtain ⟨ox, od, d, mA, J, hod, hns, rel⟩ := eA.inst I
  have hcl : (PySem.W.clsIn X.K C).isSome = true := by
    obtain ⟨cd, hc, _⟩ := PySem.W.any_some T.hd
    rw [hc]
    rfl
  exact PySem.W.kia_one (PySem.W.kitx_exc hcl T.hg T.hk T.hs T.ha T.hn T.ht T.hm) I.kIn J e (fun z => nomatch z) fun tk => ⟨.bl b, H, I.tok tk, rfl, q⟩
end
end XcV
set_option Elab.async false
set_option linter.all false
set_option maxRecDepth 100000
set_option maxHeartbeats 4000000
namespace XcV
open PySem PySem.Spec PyProof.Rows L2
/-! ### defs that are called within an except suite and are handed the exception: their promise may speak of the pinned object -/
structure FnP (P : Program) (w : World) (K : PySem.W.Frag) (mg : Str → Option Value) (base : Heap) (k : Nat) (f : Addr) (fd : FuncData) (ps : List Str) (sp : Addr → Value → Option Addr → Sp) : Prop where
  len : ∀ a c d vs H Q E, sp a c d vs H Q E → vs.length = ps.length
  run : ∀ (A : Around) (outer : List Env) (s : Shared) (H : Hp) (args : Args) (us : List Value) (vs : List V) (Q : VK) (p : Addr × Obj) (cls : Value) (d : Option Addr), L2H.RoomH k A → L2H.PinOk outer H s p → Zc cls d p.2 → (∃ vs, p.2.data = .fields vs) → Env0 P w K mg base A outer s H →
    BindsTo s fd args (ps.zip us) → Vals vs us → sp p.1 cls d vs H Q (fun _ _ _ => False) → codeAny (model P w) A (.call (.ref f) args) (CR CX0 outer P w H s Q fun _ _ _ => False) s
theorem fn_ofP {P : Program} {w : World} {K : PySem.W.Frag} {mg : Str → Option Value} {base : Heap} {k : Nat} {f : Addr} {fd : FuncData} {x qual : Str} {st : Stmt} {N ps : List Str} {sp : Addr → Value → Option Addr → Sp} (F : Fun K x qual st f fd) (S : FnScope N ps (defScope st))
    (len : ∀ a c d vs H Q E, sp a c d vs H Q E → vs.length = ps.length)
    (hbody : ∀ (cdv : Value) (A : Around) (outer : List Env) (s : Shared) (H : Hp) (vs : List V) (Q : VK) (p : Addr × Obj) (cls : Value) (d : Option Addr), L2H.RoomH k (A.deeper (envOfC qual (defScope st) s.heap.objs.size f cdv)) → Zc cls d p.2 → (∃ vs, p.2.data = .fields vs) → sp p.1 cls d vs H Q (fun _ _ _ => False) →
      ∃ t, PSs (L2H.cxH CX0 P w K mg base N qual (defScope st) f cdv A outer s H (fun _ _ _ => False) p) (defBody st) t ∧ t { nx := fun _ H' => Q .non H', rt := Q } (L2.start N vs) H) :
    FnP P w K mg base (k + 1) f fd ps sp := by
  obtain ⟨oc, od, kV, doc, pm, an, cdv, ct, osl, rfl, lk, hcd⟩ := F.ex
  refine ⟨len, fun A outer s H args us vs Q p cls d hr hpin hz hf e0 hb r hsp => ?_⟩
  have KX : K.In s.heap := e0.mod.kin.keeps fun b o e => (e0.bs b o e).1
  have lim : s.heap.NoLimit := e0.mod.nolimit.keeps fun b o e => (e0.bs b o e).1
  have kinds : ∀ y ∈ ps.zip us, (defScope st).names.lookup y.1 = some .local ∨ ((defScope st).names.lookup y.1 = some .cell ∧ ((cellsFrom (s.heap.objs.size + 1) (defScope st).names []).lookup y.1).isSome = true) := by
    rintro ⟨n, v⟩ hy
    rcases S.par n (List.of_mem_zip hy).1 with q | q
    · exact .inl q
    · exact .inr ⟨q, PySem.W.cellsFrom_some _ _ _ (.inl q)⟩
  refine codeAny_call_function hr.depth (KX _ _ lk) rfl S.co S.gen rfl (PySem.W.codeRec_of KX hcd) (hb _ _ _ _ ?_)
  refine wpAny_newFunctionEnv_cells S.kind kinds fun env he s1 x => ?_
  subst he
  refine ⟨lim.keeps x.toInCall.keep, codeAny_func ?_⟩
  obtain ⟨t, ht, hq⟩ := hbody cdv A outer s H vs Q p cls d (hr.deeper _) hz hf hsp
  have I := L2H.inv_startH (CX := CX0) (P := P) (mg := mg) (E := fun _ _ _ => False) (qual := qual) (f := f) (cd := cdv) S hpin e0 (len _ _ _ _ _ _ _ hsp) r x
  refine wpAny_mono (ht.run [] s1 (L2.start N vs) H _ I hq) (fun fl s' hs => ?_) fun e s' hs => hs
  cases fl with
  | ret u =>
    obtain ⟨v, σ', H', J, rv, q⟩ := hs
    exact ⟨v, H', J.os, J.bare, J.base, J.hok, rv, q⟩
  | next =>
    obtain ⟨σ', H', J, q⟩ := hs
    exact ⟨.non, H', J.os, J.bare, J.base, J.hok, rfl, q⟩
  | brk =>
    obtain ⟨_, _, _, q⟩ := hs
    exact False.elim q
  | cont =>
    obtain ⟨_, _, _, q⟩ := hs
    exact False.elim q
section
variable {X : Cx} {k : Nat} {f : Addr} {fd : FuncData} {ps : List Str} {sp : Addr → Value → Option Addr → Sp} {x : Str} {q pos : Pos} {e : Expr} {es : List Expr} {t : TA}
/-- f(e, ..) in such a suite, p the pinned exception -/
def tCallP (sp : Addr → Value → Option Addr → Sp) (a : Addr) (cls : Value) (d : Option Addr) (t : TA) : TE := fun σ H Q => t σ H fun vs H1 => sp a cls d vs H1 Q (fun _ _ _ => False)
theorem pe_callP {a : Addr} {oe : Obj} {cls : Value} {d : Option Addr} (hp : (a, oe) ∈ X.pn) (hz : Zc cls d oe) (hf : ∃ vs, oe.data = .fields vs) (FF : FnP X.prog X.w X.K X.mg X.base k f fd ps sp) (hr : L2H.RoomH k X.A) (hg : Gl X x) (hm : X.mg x = some (.ref f)) (hk : PySem.W.keepIn X.K (.ref f) = true) (hb : Binds X.K fd ps [])
    (ha : PA X (e :: es) t) (hdb : (x == ("__debug__" : Str)) = false := by decide) (he : starEach (e :: es) X.env = (false, eval e X.env) :: starEach es X.env := by rfl) (hpl : (backTo pos (starEach es X.env)).any (·.1) = false := by rfl) :
    PE X (.Call (.Name x q) (e :: es) [] pos) (tCallP sp a cls d t) := by
  refine ⟨fun pins s σ H Q I h => ?_⟩
  refine wpAny_Call_Name_kw (ld_glob I hg hm ?_ hdb)
  refine PySem.W.callWith_K (h₀ := X.base) I.ok.mod.kin hk (thn (ha.run pos pins s σ H _ I h) fun us s1 ⟨vs, H1, J, r, q1⟩ => ⟨J.kIn, ?_⟩) he hpl
  have hl : us.length = ps.length := by
    rw [← r.length]
    exact FF.len _ _ _ _ _ _ _ q1
  have b := hb s1 us J.kIn (by rw [List.append_nil]; exact hl)
  rw [List.append_nil] at b
  have P1 := J.pin (a, oe) (List.mem_append_left _ hp)
  have hpin : L2H.PinOk X.stack H1 s1 (a, oe) := ⟨P1.1, P1.2.1, fun hm => (List.mem_cons.mp (J.stkSub a hm)).elim P1.2.2.1 P1.2.2.2.1, P1.2.2.2.2⟩
  show wpAny _ _ (call (.ref f) us) _ _ _
  refine wpAny_call (codeAny_mono (FF.run X.A X.stack s1 H1 ⟨us, []⟩ us vs Q (a, oe) cls d hr hpin hz hf J.env0 b r q1) fun r s' hq => ?_)
  cases r with
  | error e => exact False.elim hq
  | ok fl =>
    cases fl with
    | ret u => exact J.after hq
    | next => exact False.elim hq
    | brk => exact False.elim hq
    | cont => exact False.elim hq
end
/-! ### try: body; several clauses, with or without a name -/
/-- what the clauses wish, one after the other: some i, the clause's name in slot i -/
def wMix (K : PySem.W.Frag) (Wout : WX) (D : Ends) : List (Value × Option Nat × (Addr → Value → Option Addr → TS)) → WX
  | [] => Wout
  | (c, o, ts) :: r => fun cls d σ H => ∃ b, PySem.W.exmOne K cls c = some b ∧
      (b = true → ∀ a, H a = none → (match o with
        | none => ts a cls d D σ H
        | some i => ts a cls d { nx := fun σ' H' => D.nx (σ'.set i none) H', rt := D.rt, bk := fun σ' H' => D.bk (σ'.set i none) H', ct := fun σ' H' => D.ct (σ'.set i none) H' } (σ.set i (some (.ref a))) H)) ∧
      (b = false → wMix K Wout D r cls d σ H)
inductive HdsMix (X : Cx) : List ExceptHandler → List (Value × Option Nat × (Addr → Value → Option Addr → TS)) → Prop
  | nil : HdsMix X [] []
  | bare {x : Str} {c : Value} {ts : Addr → Value → Option Addr → TS} {b₀ : Stmt} {suite : List Stmt} {np pos' : Pos} {hds : List ExceptHandler} {l : List (Value × Option Nat × (Addr → Value → Option Addr → TS))} (hc : Names X x c)
      (hsu : ∀ (a : Addr) (oe : Obj) (cls : Value) (d : Option Addr) (pn : List (Addr × Obj)), Zc cls d oe → (∃ vs, oe.data = .fields vs) → PSs (X.suite a ((a, oe) :: pn)) (b₀ :: suite) (ts a cls d)) (r : HdsMix X hds l) :
      HdsMix X (.ExceptHandler (some (.Name x np)) none (b₀ :: suite) pos' :: hds) ((c, none, ts) :: l)
  | as_ {x n : Str} {i : Nat} {c : Value} {ts : Addr → Value → Option Addr → TS} {b₀ : Stmt} {suite : List Stmt} {np pos' : Pos} {hds : List ExceptHandler} {l : List (Value × Option Nat × (Addr → Value → Option Addr → TS))} (hc : Names X x c) (hN : X.N.Nodup) (hi : X.N[i]? = some n) (hln : X.env.kindOf n = some .local)
      (hsu : ∀ (a : Addr) (oe : Obj) (cls : Value) (d : Option Addr) (pn : List (Addr × Obj)), Zc cls d oe → (∃ vs, oe.data = .fields vs) → PSs (X.suite a ((a, oe) :: pn)) (b₀ :: suite) (ts a cls d)) (r : HdsMix X hds l) :
      HdsMix X (.ExceptHandler (some (.Name x np)) (some n) (b₀ :: suite) pos' :: hds) ((c, some i, ts) :: l)
section
variable {X : Cx} {body : List Stmt} {h₀ : ExceptHandler} {hds : List ExceptHandler} {l : List (Value × Option Nat × (Addr → Value → Option Addr → TS))} {pos : Pos} {tb : WX → TS} {Wout : WX}
theorem ps_try_mix (hs : X.stack = X.env :: X.outer) (hf : X.env.frame = some X.env.locals) (tk : Takes X Wout)
    (hb : ∀ (W : WX) (pn : List (Addr × Obj)) (xe : Value → Shared → Prop), Takes (X.tr pn xe) W → PassesOwn (model X.prog X.w) X.A X.env xe → PSs (X.tr pn xe) body (tb W))
    (hh : HdsMix X (h₀ :: hds) l) : PS X (.Try body (h₀ :: hds) [] [] pos) (fun D σ H => tb (wMix X.K Wout D l) D σ H) := by
  refine ⟨fun pins s σ H D I h => ?_⟩
  have ok := I.ok
  have fr : X.A.frames = some (X.env :: X.outer) := by
    rw [ok.frames, hs]
  refine wpAny_Try_except ?_
  refine wpAny_mono ((hb (wMix X.K Wout D l) (X.pn ++ pins) (fun e s₁ => wpAny (model X.prog X.w) X.A (noteFrame e X.env) (fun _ s₂ => wpAny (model X.prog X.w) X.A (setFlight e none) (fun _ s₃ =>
    wpAny (model X.prog X.w) X.A (handleBy e X.env (h₀ :: hds)) (SP X pins D) X.xe s₃) X.xe s₂) X.xe s₁) (fun u s' xx => ?_) PassesOwn.looking).run [] s σ H D (I.toTry _) h) (fun f s1 hsp => ?_) (fun e s1 he => he)
  · obtain ⟨a, B, sI, pins', σ', H', cls, d, rfl, J', nb, up, sky, na, os, ag, w⟩ := xx
    have J : Inv X pins σ' H' sI := J'.ofTry ok
    have sky1 : Sky B (X.env :: X.outer) a (Zc cls d) X.env.locals s'.heap := by
      rw [← hs]
      exact sky
    show wpAny (model X.prog X.w) X.A (noteFrame (.ref a) X.env) _ _ _
    refine Sky.land Zc.steady fr hf sky1 fun h3 fl3 up3 => ?_
    have J3 : Inv X pins σ' H' { s' with heap := h3 } := J.landed nb fl3.1 (up.trans up3) os ag
    obtain ⟨oe3, vs3, he3, hz3, hd3⟩ := fl3.there
    have nfr : a ∉ frs (X.env :: X.outer) := fun hm => by
      obtain ⟨_, o', e', hnf⟩ := fl3.2.2.1.mem hm
      rw [he3] at e'
      cases e'
      exact hnf _ hd3
    have nL : a ≠ X.env.locals := fun z => nfr (List.mem_filterMap.mpr ⟨X.env, List.mem_cons_self, by rw [hf, z]⟩)
    have nF : a ∉ X.fs := fun hm => by
      obtain ⟨e, he, q⟩ := List.mem_filterMap.mp hm
      exact nfr (List.mem_filterMap.mpr ⟨e, List.mem_cons_of_mem _ he, q⟩)
    have S3 := J3.suite he3 hd3 na nL nF
    have LT : PySem.W.Looks (model X.prog X.w) h3 (typeOf (.ref a)) cls := fun A Q E s k q => wpAny_typeOf_ref (k _ _ he3) (by rw [hz3.1]; exact q)
    have test : ∀ {x : Str} {np : Pos} {c : Value} {Q : Value → Shared → Prop} {E : Value → Shared → Prop}, Names X x c → Q c { s' with heap := h3 } →
        wpAny (model X.prog X.w) (X.A.mark (some (.ref a))) (eval (.Name x np) X.env) Q E { s' with heap := h3 } := fun {x np c Q E} hc q => by
      obtain ⟨hg, hdbg, hm | ⟨hm, hv, hnn⟩⟩ := hc
      · exact ld_glob (X := X.suite a ((a, oe3) :: (X.pn ++ pins))) S3 hg hm q hdbg
      · exact ld_blt (X := X.suite a ((a, oe3) :: (X.pn ++ pins))) S3 hg hm hv q hnn hdbg
    have go : ∀ {hds' : List ExceptHandler} {l' : List (Value × Option Nat × (Addr → Value → Option Addr → TS))}, HdsMix X hds' l' → wMix X.K Wout D l' cls d σ' H' →
        wpAny (model X.prog X.w) X.A (handleBy (.ref a) X.env hds') (SP X pins D) X.xe { s' with heap := h3 } := by
      intro hds' l' hk
      induction hk with
      | nil =>
        intro w
        refine wpAny_handleBy_nil ?_
        obtain ⟨k1, k2, k3, oe, vs, T, oT, ts', he, hz, hd, h1, hr⟩ := id fl3
        unfold PySem.passOn
        refine wpAny_bind (wpAny_field he hd h1 ?_)
        rw [if_neg (show ¬ ((Value.ref T == Value.none) = true) from by simp)]
        have fin : wpAny (model X.prog X.w) X.A (setFlight (.ref a) X.env.frame) (fun _ s4 => wpAny (model X.prog X.w) X.A (throw (.ref a) : Sem Flow) (SP X pins D) X.xe s4) X.xe { s' with heap := h3 } := by
          rw [hf]
          refine HandSPX.setFlight_upZ fl3 fun h4 hh4 up4 => wpAny_throw (tk _ _ ?_)
          exact ⟨a, B, sI, pins, σ', H', cls, d, rfl, J, nb, (up.trans up3).trans up4, .inr (.inr (by rw [hs]; exact hh4)), na, os, ag, w⟩
        first
          | exact wpAny_bind (wpAny_pure (wpAny_bind fin))
          | exact wpAny_bind fin
      | @bare x c ts b₀ suite np pos' hds2 l2 hc hsu r ih =>
        intro w
        obtain ⟨b, hb1, hyes, hno⟩ := w
        refine wpAny_handleBy_cons (codeAny_handlers_test ?_) (by intro q; cases q)
        have LM := PySem.W.exm_one (M := model X.prog X.w) (J3.kIn) LT hb1
        refine test hc (LM.here ?_)
        cases b with
        | true =>
          refine codeAny_handlers_suite ?_
          refine HandSPX.lands_againZ fl3 fun h4 fl4 up4 => ?_
          have J4 : Inv X pins σ' H' { s' with heap := h4 } := J.landed nb fl4.1 ((up.trans up3).trans up4) os ag
          obtain ⟨oe4, vs4, he4, hz4, hd4⟩ := fl4.there
          have S4 := J4.suite he4 hd4 na nL nF
          refine wpAny_mono ((hsu a oe4 cls d (X.pn ++ pins) hz4 ⟨_, hd4⟩).run [] _ _ H' _ S4 (hyes rfl a na)) (fun f s6 hsp => ?_) (fun _ _ z => False.elim z)
          cases f with
          | ret u =>
            obtain ⟨v6, σ6, H6, S6, r6, q6⟩ := hsp
            exact ⟨_, _, _, S6.unsuite ok, r6, q6⟩
          | next =>
            obtain ⟨σ6, H6, S6, q6⟩ := hsp
            exact ⟨_, _, S6.unsuite ok, q6⟩
          | brk =>
            obtain ⟨σ6, H6, S6, q6⟩ := hsp
            exact ⟨_, _, S6.unsuite ok, q6⟩
          | cont =>
            obtain ⟨σ6, H6, S6, q6⟩ := hsp
            exact ⟨_, _, S6.unsuite ok, q6⟩
        | false =>
          show wpAny _ X.A (handleBy (.ref a) X.env hds2) _ _ _
          exact ih (hno rfl)
      | @as_ x n i c ts b₀ suite np pos' hds2 l2 hc hN hi hln hsu r ih =>
        intro w
        obtain ⟨b, hb1, hyes, hno⟩ := w
        refine wpAny_handleBy_cons (codeAny_handlers_test ?_) (by intro q; cases q)
        have LM := PySem.W.exm_one (M := model X.prog X.w) (J3.kIn) LT hb1
        refine test hc (LM.here ?_)
        cases b with
        | true =>
          refine codeAny_handlers_suite_as ?_
          refine HandSPX.lands_againZ fl3 fun h4 fl4 up4 => ?_
          have J4 : Inv X pins σ' H' { s' with heap := h4 } := J.landed nb fl4.1 ((up.trans up3).trans up4) os ag
          obtain ⟨oe4, vs4, he4, hz4, hd4⟩ := fl4.there
          have S4 := J4.suite he4 hd4 na nL nF
          refine store_ok (X := X.suite a ((a, oe4) :: (X.pn ++ pins))) (v := .ref a) S4 hN hi (.inl hln) rfl (fun s5 S5 => ?_) (.inr hln)
          refine wpAny_mono ((hsu a oe4 cls d (X.pn ++ pins) hz4 ⟨_, hd4⟩).run [] s5 _ H' _ S5 (hyes rfl a na)) (fun f s6 hsp => ?_) (fun _ _ z => False.elim z)
          have end_ : ∀ {σ6 : St} {H6 : Hp} {Q : Shared → Prop}, Inv (X.suite a ((a, oe4) :: (X.pn ++ pins))) [] σ6 H6 s6 → (∀ s7, Inv X pins (σ6.set i none) H6 s7 → Q s7) →
              wpAny (model X.prog X.w) X.A (do bindName X.env n .none; unbindBehindTheSuite X.env n pos') (fun _ s7 => Q s7) X.xe s6 := fun {σ6 H6 Q} S6 hq => gone_ok (S6.unsuite ok) hN hi hln hq
          cases f with
          | ret u =>
            obtain ⟨v6, σ6, H6, S6, r6, q6⟩ := hsp
            exact end_ S6 fun s7 J7 => ⟨_, _, _, J7, r6, q6⟩
          | next =>
            obtain ⟨σ6, H6, S6, q6⟩ := hsp
            exact end_ S6 fun s7 J7 => ⟨_, _, J7, q6⟩
          | brk =>
            obtain ⟨σ6, H6, S6, q6⟩ := hsp
            exact end_ S6 fun s7 J7 => ⟨_, _, J7, q6⟩
          | cont =>
            obtain ⟨σ6, H6, S6, q6⟩ := hsp
            exact end_ S6 fun s7 J7 => ⟨_, _, J7, q6⟩
        | false =>
          show wpAny _ X.A (handleBy (.ref a) X.env hds2) _ _ _
          exact ih (hno rfl)
    exact go hh w
  · cases f with
    | ret u =>
      obtain ⟨v, σ', H', J', r, q⟩ := hsp
      exact ⟨v, σ', H', J'.ofTry ok, r, q⟩
    | next =>
      obtain ⟨σ', H', J', q⟩ := hsp
      exact wpAny_execs_nil ⟨σ', H', J'.ofTry ok, q⟩
    | brk =>
      obtain ⟨σ', H', J', q⟩ := hsp
      exact ⟨σ', H', J'.ofTry ok, q⟩
    | cont =>
      obtain ⟨σ', H', J', q⟩ := hsp
      exact ⟨σ', H', J'.ofTry ok, q⟩
end
end XcV
set_option Elab.async false
set_option linter.all false
set_option maxRecDepth 100000
set_option maxHeartbeats 4000000
namespace HB
open PySem PySem.Spec PyProof.Rows L2 XcV
/-! ### built-in names -/
theorem bt_len : bootBuiltins "len" = some (.builtin "len") := by decide +kernel
theorem bt_isinstance : bootBuiltins "isinstance" = some (.builtin "isinstance") := by decide +kernel
theorem bt_abs : bootBuiltins "abs" = some (.builtin "abs") := by decide +kernel
theorem bt_all : bootBuiltins "all" = some (.builtin "all") := by decide +kernel
theorem bt_any : bootBuiltins "any" = some (.builtin "any") := by decide +kernel
theorem bt_max : bootBuiltins "max" = some (.builtin "max") := by decide +kernel
theorem bt_min : bootBuiltins "min" = some (.builtin "min") := by decide +kernel
theorem bt_sum : bootBuiltins "sum" = some (.builtin "sum") := by decide +kernel
theorem bt_sorted : bootBuiltins "sorted" = some (.builtin "sorted") := by decide +kernel
theorem bt_int : bootBuiltins "int" = some (.type "int") := by decide +kernel
theorem bt_str : bootBuiltins "str" = some (.type "str") := by decide +kernel
theorem bt_bool : bootBuiltins "bool" = some (.type "bool") := by decide +kernel
theorem bt_list : bootBuiltins "list" = some (.type "list") := by decide +kernel
theorem bt_tuple : bootBuiltins "tuple" = some (.type "tuple") := by decide +kernel
theorem bt_range : bootBuiltins "range" = some (.type "range") := by decide +kernel
theorem bt_set : bootBuiltins "set" = some (.type "set") := by decide +kernel
theorem bt_dict : bootBuiltins "dict" = some (.type "dict") := by decide +kernel
theorem bt_enumerate : bootBuiltins "enumerate" = some (.type "enumerate") := by decide +kernel
theorem bt_reversed : bootBuiltins "reversed" = some (.type "reversed") := by decide +kernel
theorem bt_zip : bootBuiltins "zip" = some (.type "zip") := by decide +kernel
theorem bt_ValueError : bootBuiltins "ValueError" = some (.type "ValueError") := by decide +kernel
/-- a def of the text as the top has left it -/
structure Fd (K : PySem.W.Frag) (mg : Str → Option Value) (x : Str) (st : Stmt) (ps : List Str) where
  f : Addr
  fd : FuncData
  F : Fun K x x st f fd
  g : mg x = some (.ref f)
  b : Binds K fd ps []
theorem Fd.k {K : PySem.W.Frag} {mg : Str → Option Value} {x : Str} {st : Stmt} {ps : List Str} (d : Fd K mg x st ps) : PySem.W.keepIn K (.ref d.f) = true := d.F.kp
section
variable {X : Cx}
/-! ### two more rules: a text times a number; an item of a list, for an item op= e -/
theorem fold_size {α : Type} (a : Array α) : ∀ (k : Nat) (i : Array α), ((List.replicate k a).foldl (· ++ ·) i).size = i.size + k * a.size
  | 0, i => by simp
  | k + 1, i => by
    rw [List.replicate_succ, List.foldl_cons, fold_size a k (i ++ a), Array.size_append, Nat.succ_mul]
    omega
/-- z * n -/
def strMul (z : Str) (n : Int) : Str := if n < 1 then Str.empty else if (n == 1 || z.length == 0) = true then z else ⟨(List.replicate n.toNat z.cps).foldl (· ++ ·) #[]⟩
theorem len_fold (z : Str) (k : Nat) : (⟨(List.replicate k z.cps).foldl (· ++ ·) #[]⟩ : Str).length = k * z.length := by
  show (Array.size _) = _
  rw [fold_size]
  simp [Str.length]
theorem strMul_len {z : Str} {n : Int} (h0 : 0 ≤ n) (h1 : n ≤ 1000) (h2 : z.length ≤ 1000) : (strMul z n).length ≤ 1000000 := by
  unfold strMul
  split
  · show (0 : Nat) ≤ _
    omega
  · split
    · omega
    · rw [len_fold]
      have a : n.toNat ≤ 1000 := by omega
      calc n.toNat * z.length ≤ 1000 * 1000 := Nat.mul_le_mul a h2
        _ ≤ 1000000 := by decide
theorem op_mul_str : OpR X (binaryOp .Mult) (fun x y H Q => ∃ (z : Str) (n : Int), x = .str z ∧ y = .int n ∧ 0 ≤ n ∧ n ≤ 1000 ∧ z.length ≤ 1000 ∧ Q (.str (strMul z n)) H) := by
  intro pins s σ H x y v u Q I rx ry h
  obtain ⟨z, n, rfl, rfl, h0, h1, h2, q⟩ := h
  obtain ⟨t, rfl⟩ := rx
  obtain ⟨t', rfl⟩ := ry
  have a : n.toNat ≤ 1000 := by omega
  have small : z.length * n.toNat ≤ 1000000 := by
    calc z.length * n.toNat ≤ 1000 * 1000 := Nat.mul_le_mul h2 a
      _ ≤ 1000000 := by decide
  have hL := strMul_len h0 h1 h2
  have hn := sizeLine_eq
  refine P.mul_str (by
      have a : ¬ n < -(2 ^ 63 : Int) := by omega
      have b : ¬ n ≥ 2 ^ 63 := by omega
      rw [decide_eq_false a, decide_eq_false b]
      rfl) (fun c _ => ?_) (fun c _ => ?_) ?_
  · have p : (0 : Int) < n := by omega
    have e : ((2 : Int) ^ 63 - 1) / 1000 ≤ (2 ^ 63 - 1) / n := by
      refine Int.le_ediv_of_mul_le p ?_
      have : ((2 : Int) ^ 63 - 1) / 1000 * n ≤ (2 ^ 63 - 1) / 1000 * 1000 := Int.mul_le_mul_of_nonneg_left h1 (by decide)
      omega
    have e2 : (1000 : Int) ≤ (2 ^ 63 - 1) / 1000 := by decide
    omega
  · unfold Builtin.Str.tooLong
    rw [hn]
    exact decide_eq_false (by omega)
  · unfold strMul at q hL
    by_cases c : n < 1
    · rw [if_pos c] at q ⊢
      exact ⟨by decide, ⟨.str Str.empty, H, I.tok _, ⟨_, rfl⟩, q⟩⟩
    · rw [if_neg c] at q hL ⊢
      by_cases d : (n == 1 || z.length == 0) = true
      · rw [if_pos d] at q ⊢
        exact ⟨.str z, H, I, ⟨_, rfl⟩, q⟩
      · rw [if_neg d] at q hL ⊢
        exact ⟨by omega, ⟨.str _, H, I.tok _, ⟨_, rfl⟩, q⟩⟩
theorem pget_list : PGet X (rIxL X.K) := by
  intro pins s σ H o i ov iv Q I ro ri h
  obtain ⟨p, xs, i, z, rfl, rfl, hq, he, q⟩ := h
  cases ro
  obtain ⟨t, rfl⟩ := ri
  obtain ⟨its, r, pl, hz⟩ := I.list hq
  obtain ⟨j, h1, h2, h3, h4, h5⟩ := atI_get he
  obtain ⟨w, ew, rw'⟩ := r.get h2
  have hl := r.length
  have hn := line63
  have fin : EP X pins σ Q w s := ⟨z, H, I, rw', q⟩
  by_cases h0 : 0 ≤ i
  · have hj : i.toNat = j := by
      rw [seqIndex_of h0 h5] at h1
      exact Option.some.inj h1
    exact wpAny_getItem_list pl.isList h0 (by omega) (by rw [hj]; simpa using ew) fin
  · have hj : (i + (its.toArray.size : Int)).toNat = j := by
      rw [seqIndex_neg (by omega) h4] at h1
      have e := Option.some.inj h1
      have e2 : its.toArray.size = its.length := by simp
      omega
    exact wpAny_getItem_list_neg pl.isList (by omega) (by simp; omega) (by omega) (by rw [hj]; simpa using ew) fin
end
end HB
set_option Elab.async false
set_option linter.all false
set_option maxRecDepth 100000
set_option maxHeartbeats 4000000
namespace HB
open PySem PySem.Spec PyProof.Rows L2 XcV Evl
/-! ### data, and where they stand -/
inductive D where
  | non | bl (b : Bool) | int (i : Int) | str (x : Str) | lst (l : List D) | tup (l : List D)
mutual
def D.size : D → Nat
  | .lst l => 1 + sizeL l
  | .tup l => 1 + sizeL l
  | _ => 1
def sizeL : List D → Nat
  | [] => 0
  | d :: l => d.size + sizeL l
end
theorem D.size_pos : ∀ d : D, 0 < d.size
  | .non => by simp [D.size]
  | .bl _ => by simp [D.size]
  | .int _ => by simp [D.size]
  | .str _ => by simp [D.size]
  | .lst _ => by simp only [D.size]; omega
  | .tup _ => by simp only [D.size]; omega
inductive Rep (H : Hp) : V → D → Prop
  | non : Rep H .non .non
  | bl (b : Bool) : Rep H (.bl b) (.bl b)
  | int (i : Int) : Rep H (.int i) (.int i)
  | str (x : Str) : Rep H (.str x) (.str x)
  | lst {a : Addr} {vs : List V} {ds : List D} (e : H a = some (.lst vs)) (n : vs.length = ds.length) (r : ∀ (i : Nat) (v : V) (d : D), vs[i]? = some v → ds[i]? = some d → Rep H v d) : Rep H (.ref a) (.lst ds)
  | tup {a : Addr} {vs : List V} {ds : List D} (e : H a = some (.tup vs)) (n : vs.length = ds.length) (r : ∀ (i : Nat) (v : V) (d : D), vs[i]? = some v → ds[i]? = some d → Rep H v d) : Rep H (.ref a) (.tup ds)
theorem Rep.mono {H H' : Hp} (e : Ex H H') {v : V} {d : D} (r : Rep H v d) : Rep H' v d := by
  induction r with
  | non => exact .non
  | bl b => exact .bl b
  | int i => exact .int i
  | str x => exact .str x
  | lst e1 n _ ih => exact .lst (e _ _ e1) n ih
  | tup e1 n _ ih => exact .tup (e _ _ e1) n ih
/-- a heap without some addresses -/
def hid (S : List Addr) (H : Hp) : Hp := fun b => if b ∈ S then none else H b
theorem hid_in {S : List Addr} {H : Hp} {b : Addr} (h : b ∈ S) : hid S H b = none := if_pos h
theorem hid_out {S : List Addr} {H : Hp} {b : Addr} (h : b ∉ S) : hid S H b = H b := if_neg h
theorem hid_ex (S : List Addr) (H : Hp) : Ex (hid S H) H := fun a o e => by
  unfold hid at e
  split at e
  · cases e
  · exact e
theorem hid_some {S : List Addr} {H : Hp} {b : Addr} {o : HO} (h : hid S H b = some o) : b ∉ S ∧ H b = some o := by
  unfold hid at h
  split at h
  · cases h
  · exact ⟨by assumption, h⟩
theorem Ex.hid {S : List Addr} {H H' : Hp} (e : Ex H H') : Ex (hid S H) (hid S H') := fun a o h => by
  obtain ⟨n, q⟩ := hid_some h
  rw [hid_out n]
  exact e a o q
/-- a hidden address is written -/
theorem hid_upd {S : List Addr} {H : Hp} {p : Addr} {o : HO} (h : p ∈ S) : hid S (upd H p o) = hid S H := by
  funext b
  unfold HB.hid
  by_cases hb : b ∈ S
  · rw [if_pos hb, if_pos hb]
  · rw [if_neg hb, if_neg hb, upd_ne (fun z => hb (by rw [z]; exact h))]
theorem Rep.un {S : List Addr} {H : Hp} {v : V} {d : D} (r : Rep (HB.hid S H) v d) : Rep H v d := r.mono (hid_ex S H)
/-- the built-in type's name -/
def tyOf : D → String
  | .non => "NoneType"
  | .bl _ => "bool"
  | .int _ => "int"
  | .str _ => "str"
  | .lst _ => "list"
  | .tup _ => "tuple"
theorem Rep.ty {K : PySem.W.Frag} {H : Hp} {v : V} {d : D} (r : Rep H v d) : TyX K H v (.type (tyOf d)) := by
  cases r with
  | non => exact .base .non
  | bl b => exact .base (.bl b)
  | int i => exact .base (.int i)
  | str x => exact .base (.str x)
  | lst e _ _ => exact .base (.lst e)
  | tup e _ _ => exact .base (.tup e)
/-- isinstance(x, T), x what stands for d -/
inductive RIs (H : Hp) : List V → VK → Prop
  | mk {v : V} {d : D} {T : String} {b : Bool} {Q : VK} (r : Rep H v d) (hb : kitB (tyOf d) T = some b) (q : Q (.bl b) H) : RIs H [v, .ty T] Q
theorem call_isR {X : Cx} : CallR X (.builtin "isinstance") (fun xs H Q => RIs H xs Q) := by
  intro pins s σ H xs us Q I r h
  cases h with
  | @mk v d T b _ r0 hb q => exact call_isi pins s σ H _ us Q I r ⟨v, .ty T, .type (tyOf d), .type T, b, rfl, .ty T, r0.ty, kit_ty hb, q⟩
theorem kb_NoneType_tuple : kitB "NoneType" "tuple" = some false := by decide +kernel
theorem kb_NoneType_list : kitB "NoneType" "list" = some false := by decide +kernel
theorem kb_NoneType_bool : kitB "NoneType" "bool" = some false := by decide +kernel
theorem kb_NoneType_int : kitB "NoneType" "int" = some false := by decide +kernel
theorem kb_NoneType_str : kitB "NoneType" "str" = some false := by decide +kernel
theorem kb_bool_tuple : kitB "bool" "tuple" = some false := by decide +kernel
theorem kb_bool_list : kitB "bool" "list" = some false := by decide +kernel
theorem kb_bool_bool : kitB "bool" "bool" = some true := by decide +kernel
theorem kb_bool_int : kitB "bool" "int" = some true := by decide +kernel
theorem kb_bool_str : kitB "bool" "str" = some false := by decide +kernel
theorem kb_int_tuple : kitB "int" "tuple" = some false := by decide +kernel
theorem kb_int_list : kitB "int" "list" = some false := by decide +kernel
theorem kb_int_bool : kitB "int" "bool" = some false := by decide +kernel
theorem kb_int_int : kitB "int" "int" = some true := by decide +kernel
theorem kb_int_str : kitB "int" "str" = some false := by decide +kernel
theorem kb_str_tuple : kitB "str" "tuple" = some false := by decide +kernel
theorem kb_str_list : kitB "str" "list" = some false := by decide +kernel
theorem kb_str_bool : kitB "str" "bool" = some false := by decide +kernel
theorem kb_str_int : kitB "str" "int" = some false := by decide +kernel
theorem kb_str_str : kitB "str" "str" = some true := by decide +kernel
theorem kb_list_tuple : kitB "list" "tuple" = some false := by decide +kernel
theorem kb_list_list : kitB "list" "list" = some true := by decide +kernel
theorem kb_list_bool : kitB "list" "bool" = some false := by decide +kernel
theorem kb_list_int : kitB "list" "int" = some false := by decide +kernel
theorem kb_list_str : kitB "list" "str" = some false := by decide +kernel
theorem kb_tuple_tuple : kitB "tuple" "tuple" = some true := by decide +kernel
theorem kb_tuple_list : kitB "tuple" "list" = some false := by decide +kernel
theorem kb_tuple_bool : kitB "tuple" "bool" = some false := by decide +kernel
theorem kb_tuple_int : kitB "tuple" "int" = some false := by decide +kernel
theorem kb_tuple_str : kitB "tuple" "str" = some false := by decide +kernel
theorem ifT {c : Bool} {A B : Prop} (h : c = true) (a : A) : if c = true then A else B := by
  rw [if_pos h]
  exact a
theorem ifF {c : Bool} {A B : Prop} (h : c = false) (b : B) : if c = true then A else B := by
  rw [if_neg (by rw [h]; exact Bool.false_ne_true)]
  exact b
end HB
set_option Elab.async false
set_option linter.all false
set_option maxRecDepth 100000
set_option maxHeartbeats 4000000
namespace K98
open PySem PySem.Spec PyProof.Rows L2 XcV Evl HB
def topS (i : Nat) : Stmt := PySem.Challenge.pw_donebytwo_k98_whole_errors.main.body.getD i (.Pass ⟨0, 0, 0, 0⟩)
theorem small62 {n m : Nat} (h : n ≤ m) (k : m ≤ 3000000) : -(2 ^ 62) ≤ (n : Int) := by omega
theorem small62' {n m : Nat} (h : n ≤ m) (k : m ≤ 3000000) : (n : Int) < 2 ^ 62 := by omega
theorem sizeL_len : ∀ l : List D, l.length ≤ sizeL l
  | [] => Nat.le_refl _
  | d :: l => by
    have := sizeL_len l
    have := d.size_pos
    simp only [sizeL, List.length_cons]
    omega
theorem sizeL_app : ∀ (l m : List D), sizeL (l ++ m) = sizeL l + sizeL m
  | [], m => by simp [sizeL]
  | d :: l, m => by
    rw [List.cons_append]
    simp only [sizeL]
    rw [sizeL_app l m]
    omega
theorem len_sum : ∀ ps : List (Addr × V × V × D), ps.length ≤ (ps.map fun p => p.2.2.2.size).sum
  | [] => Nat.le_refl _
  | p :: ps => by
    have := len_sum ps
    have := p.2.2.2.size_pos
    rw [List.map_cons, List.sum_cons, List.length_cons]
    omega
theorem sizeL_take (l : List D) (j : Nat) : sizeL (l.take j) ≤ sizeL l := by
  have e := sizeL_app (l.take j) (l.drop j)
  rw [List.take_append_drop] at e
  omega
structure Tz (mg : Str → Option Value) : Prop where
  z_len : mg "len" = none
  z_isinstance : mg "isinstance" = none
  z_abs : mg "abs" = none
  z_all : mg "all" = none
  z_int : mg "int" = none
  z_str : mg "str" = none
  z_bool : mg "bool" = none
  z_list : mg "list" = none
  z_tuple : mg "tuple" = none
  z_range : mg "range" = none
  z_ValueError : mg "ValueError" = none
section
variable {P : Program} {w : World} {K : PySem.W.Frag} {mg : Str → Option Value} {base : Heap}
/-! ### _law_same -/
abbrev s_law_same : Stmt := topS 25
theorem sc_law_same : FnScope ["told", "due", "stack", "count", "left", "right", "k"] ["told", "due"] (defScope s_law_same) := ⟨rfl, rfl, rfl, by decide +kernel, rfl, by decide +kernel, by decide +kernel⟩
/-- the same thing twice: True -/
def spSame : Sp := fun vs H Q _ => ∃ (x y : V) (d : D), vs = [x, y] ∧ Rep H x d ∧ Rep H y d ∧ d.size < 3000000 ∧ ∀ H', Ex H H' → Q (.bl true) H'
theorem ok_law_same {f : Addr} {fd : FuncData} (F : Fun K "_law_same" "_law_same" s_law_same f fd) (T : Tz mg) : FnOk P w K mg base CX0 1 f fd ["told", "due"] spSame := by
  refine F.ok sc_law_same (fun vs H Q E h => ?_) (fun cdv A outer s H vs Q E hr h => ?_)
  · obtain ⟨x, y, d, rfl, _⟩ := h
    rfl
  · obtain ⟨x0, y0, d0, rfl, rx, ry, hsz, k⟩ := h
    refine ⟨_, (pss_cons (ps_set (i := 2) sc_law_same.nd rfl (Or.inl rfl) (pe_lst (pa_cons (pe_tup (pa_cons (pv 0) (pa_cons (pv 1) pa_nil))) pa_nil)))
  (pss_cons (ps_for PassesOwn.never rfl (pi_range1 (by rfl) T.z_range (pa_cons pe_int pa_nil)) (pg_name (i := 3) sc_law_same.nd rfl (Or.inl rfl))
  (pss_cons (ps_if (pt_cmpR op_eq (pe_callB call_len_seq (by rfl) T.z_len bt_len (pa_cons (pv 2) pa_nil)) pe_int (nomark _)) (pss_one (ps_ret pe_bl))
  pss_nil)
  (pss_cons (ps_asg (pe_bm0 PySem.F.plainAttrs_list PySem.F.slot_list_pop PySem.F.type_list_pop mt_pop (pv 2)) (pg_tup rfl (pgs_cons (pg_name (i := 4) sc_law_same.nd rfl (Or.inl rfl)) (pgs_cons (pg_name (i := 5) sc_law_same.nd rfl (Or.inl rfl)) pgs_nil))))
  (pss_one (ps_if (PW.pt (pw_or (pt_val (pe_callB call_isR (by rfl) T.z_isinstance bt_isinstance (pa_cons (pv 5) (pa_cons (pe_bltn (by rfl) T.z_tuple (v := .ty "tuple") bt_tuple rfl) pa_nil)))) (pw_or1 (pt_val (pe_callB call_isR (by rfl) T.z_isinstance bt_isinstance (pa_cons (pv 5) (pa_cons (pe_bltn (by rfl) T.z_list (v := .ty "list") bt_list rfl) pa_nil))))))) (pss_cons (ps_if (PW.pt (pw_and (pt_val (pe_callB call_isR (by rfl) T.z_isinstance bt_isinstance (pa_cons (pv 5) (pa_cons (pe_bltn (by rfl) T.z_tuple (v := .ty "tuple") bt_tuple rfl) pa_nil)))) (pw_and1 (pt_not (pt_val (pe_callB call_isR (by rfl) T.z_isinstance bt_isinstance (pa_cons (pv 4) (pa_cons (pe_bltn (by rfl) T.z_tuple (v := .ty "tuple") bt_tuple rfl) pa_nil)))))))) (pss_one (ps_ret pe_bl))
  pss_nil)
  (pss_cons (ps_if (PW.pt (pw_and (pt_val (pe_callB call_isR (by rfl) T.z_isinstance bt_isinstance (pa_cons (pv 5) (pa_cons (pe_bltn (by rfl) T.z_list (v := .ty "list") bt_list rfl) pa_nil)))) (pw_and1 (pt_not (pt_val (pe_callB call_isR (by rfl) T.z_isinstance bt_isinstance (pa_cons (pv 4) (pa_cons (pe_bltn (by rfl) T.z_list (v := .ty "list") bt_list rfl) pa_nil)))))))) (pss_one (ps_ret pe_bl))
  pss_nil)
  (pss_cons (ps_if (pt_cmpR op_ne (pe_callB call_len_seq (by rfl) T.z_len bt_len (pa_cons (pv 4) pa_nil)) (pe_callB call_len_seq (by rfl) T.z_len bt_len (pa_cons (pv 5) pa_nil)) (nomark _)) (pss_one (ps_ret pe_bl))
  pss_nil)
  (pss_one (ps_for PassesOwn.never rfl (pi_range1 (by rfl) T.z_range (pa_cons (pe_callB call_len_seq (by rfl) T.z_len bt_len (pa_cons (pv 5) pa_nil)) pa_nil)) (pg_name (i := 6) sc_law_same.nd rfl (Or.inl rfl))
  (pss_one (ps_expr (pe_bm PySem.F.plainAttrs_list PySem.F.slot_list_append PySem.F.type_list_append mt_append (pv 2) (pa_cons (pe_tup (pa_cons (pe_ix ix_seq (pv 4) (pv 6) (fun _ _ => rfl)) (pa_cons (pe_ix ix_seq (pv 5) (pv 6) (fun _ _ => rfl)) pa_nil))) pa_nil)))))))))
  (pss_one (ps_if (pt_cmp (pc_isN (pv 5))) (pss_one (ps_if (pt_cmp (pc_notN (pv 4))) (pss_one (ps_ret pe_bl))
  pss_nil))
  (pss_one (ps_if (pt_val (pe_callB call_isR (by rfl) T.z_isinstance bt_isinstance (pa_cons (pv 5) (pa_cons (pe_bltn (by rfl) T.z_bool (v := .ty "bool") bt_bool rfl) pa_nil)))) (pss_one (ps_if (PW.pt (pw_or (pt_not (pt_val (pe_callB call_isR (by rfl) T.z_isinstance bt_isinstance (pa_cons (pv 4) (pa_cons (pe_bltn (by rfl) T.z_bool (v := .ty "bool") bt_bool rfl) pa_nil))))) (pw_or1 (pt_cmpR op_ne (pv 4) (pv 5) (nomark _))))) (pss_one (ps_ret pe_bl))
  pss_nil))
  (pss_one (ps_if (pt_val (pe_callB call_isR (by rfl) T.z_isinstance bt_isinstance (pa_cons (pv 5) (pa_cons (pe_bltn (by rfl) T.z_int (v := .ty "int") bt_int rfl) pa_nil)))) (pss_one (ps_if (PW.pt (pw_or (pt_not (pt_val (pe_callB call_isR (by rfl) T.z_isinstance bt_isinstance (pa_cons (pv 4) (pa_cons (pe_bltn (by rfl) T.z_int (v := .ty "int") bt_int rfl) pa_nil))))) (pw_or (pt_val (pe_callB call_isR (by rfl) T.z_isinstance bt_isinstance (pa_cons (pv 4) (pa_cons (pe_bltn (by rfl) T.z_bool (v := .ty "bool") bt_bool rfl) pa_nil)))) (pw_or1 (pt_cmpR op_ne (pv 4) (pv 5) (nomark _)))))) (pss_one (ps_ret pe_bl))
  pss_nil))
  (pss_one (ps_if (PW.pt (pw_or (pt_not (pt_val (pe_callB call_isR (by rfl) T.z_isinstance bt_isinstance (pa_cons (pv 5) (pa_cons (pe_bltn (by rfl) T.z_str (v := .ty "str") bt_str rfl) pa_nil))))) (pw_or (pt_not (pt_val (pe_callB call_isR (by rfl) T.z_isinstance bt_isinstance (pa_cons (pv 4) (pa_cons (pe_bltn (by rfl) T.z_str (v := .ty "str") bt_str rfl) pa_nil))))) (pw_or1 (pt_cmpR op_ne (pv 4) (pv 5) (nomark _)))))) (pss_one (ps_ret pe_bl))
  pss_nil)))))))))))))
  (pss_one (ps_ret pe_bl)))), ?_⟩
    -- stack = [(told, due)]
    refine ⟨_, rfl, _, rfl, (by show 2 ≤ sizeLine; decide), fun t0 ht0 => ⟨(by show 1 ≤ sizeLine; decide), fun st hst => ?_⟩⟩
    have hst0 : H st = none := fresh_back (Ex.new ht0) hst
    have e0 : Ex H (upd (upd H t0 (.tup [x0, y0])) st (.lst [.ref t0])) := (Ex.new ht0).trans (Ex.new hst)
    have tne : t0 ≠ st := ne_of_none upd_same hst
    refine ⟨3000000, rfl, by decide, by decide, for_range (lo := 0) (n := 3000000) (fun i σ H' => ∃ (ps : List (Addr × V × V × D)) (c l r kk : Option V), σ = [some x0, some y0, some (.ref st), c, l, r, kk] ∧ Ex H H' ∧
      H' st = some (.lst (ps.map fun p => .ref p.1)) ∧ (∀ p ∈ ps, p.1 ≠ st ∧ H' p.1 = some (.tup [p.2.1, p.2.2.1]) ∧ Rep H p.2.1 p.2.2.2 ∧ Rep H p.2.2.1 p.2.2.2) ∧ (ps.map fun p => p.2.2.2.size).sum + i ≤ d0.size) ?_ ?_ ?_⟩
    · refine ⟨[(t0, x0, y0, d0)], none, none, none, none, rfl, e0, upd_same, fun p hp => ?_, Nat.le_refl _⟩
      rw [List.mem_singleton.mp hp]
      exact ⟨tne, (by rw [upd_ne tne]; exact upd_same), rx, ry⟩
    · rintro i σ H' hi ⟨ps, c, l, r, kk, rfl, e1, hs, hall, hsum⟩
      -- if len(stack) == 0: return True
      refine ⟨_, rfl, st, _, rfl, .inl (SqL.of hs), rfl, _, rfl, ?_⟩
      rcases List.eq_nil_or_concat ps with rfl | ⟨qs, p, eqs⟩
      · exact ifT rfl (k _ e1)
      · rw [List.concat_eq_append] at eqs
        subst eqs
        have hlen : decide (V.int (((qs ++ [p]).map fun p => V.ref p.1).length : Int) = V.int 0) = false := decide_eq_false fun z => by
          injection z with z
          rw [List.length_map, List.length_append] at z
          simp at z
          omega
        refine ifF hlen ?_
        obtain ⟨t, v, u, d⟩ := p
        obtain ⟨tn, ht, rv, ru⟩ := hall _ (List.mem_append_right _ (List.mem_singleton.mpr rfl))
        have hs2 : H' st = some (.lst ((qs.map fun p => V.ref p.1) ++ [V.ref t])) := by
          rw [hs, List.map_append]
          rfl
        -- left, right = stack.pop()
        refine ⟨_, rfl, .inl ⟨rfl, _, SqL.of hs2⟩, st, _, V.ref t, rfl, rfl, hs2, by simp, ?_⟩
        rw [List.dropLast_concat]
        have e2 : Ex H (upd H' st (.lst (qs.map fun p => V.ref p.1))) := e1.mut hst0
        refine ⟨t, [v, u], rfl, SqT.of (by rw [upd_ne tn]; exact ht), rfl, v, [u], rfl, u, [], rfl, rfl, ?_⟩
        have hq : ∀ p ∈ qs, p.1 ≠ st ∧ (upd H' st (.lst (qs.map fun p => V.ref p.1))) p.1 = some (.tup [p.2.1, p.2.2.1]) ∧ Rep H p.2.1 p.2.2.2 ∧ Rep H p.2.2.1 p.2.2.2 := fun p hp => by
          obtain ⟨a1, a2, a3⟩ := hall p (List.mem_append_left _ hp)
          exact ⟨a1, by rw [upd_ne a1]; exact a2, a3⟩
        have hd : d.size = (D.size d) := rfl
        have hs3 : (qs.map fun p => p.2.2.2.size).sum + d.size + i ≤ d0.size := by
          rw [List.map_append, List.sum_append] at hsum
          simpa using hsum
        have dp := d.size_pos
        -- what is left of the stack: the invariant for the next turn
        have nxt : ∀ kk', ∃ (ps : List (Addr × V × V × D)) (c l r kk : Option V), ([some x0, some y0, some (.ref st), some (.int (0 + (i : Int))), some v, some u, kk'] : List (Option V)) = [some x0, some y0, some (.ref st), c, l, r, kk] ∧ Ex H (upd H' st (.lst (qs.map fun p => V.ref p.1))) ∧
            (upd H' st (.lst (qs.map fun p => V.ref p.1))) st = some (.lst (ps.map fun p => .ref p.1)) ∧ (∀ p ∈ ps, p.1 ≠ st ∧ (upd H' st (.lst (qs.map fun p => V.ref p.1))) p.1 = some (.tup [p.2.1, p.2.2.1]) ∧ Rep H p.2.1 p.2.2.2 ∧ Rep H p.2.2.1 p.2.2.2) ∧ (ps.map fun p => p.2.2.2.size).sum + (i + 1) ≤ d0.size := fun kk' =>
          ⟨qs, _, _, _, _, rfl, e2, upd_same, hq, by omega⟩
        have ru2 := ru.mono e2
        have rv2 := rv.mono e2
        have ru2 := ru.mono e2
        have rv2 := rv.mono e2
        have seqs : ∀ {vs us : List V} {ds : List D}, vs.length = ds.length → us.length = ds.length → (∀ (j : Nat) (v : V) (d : D), vs[j]? = some v → ds[j]? = some d → Rep H v d) → (∀ (j : Nat) (v : V) (d : D), us[j]? = some v → ds[j]? = some d → Rep H v d) →
            d.size = 1 + sizeL ds → ∀ (a b : Addr), v = .ref a → u = .ref b → True := fun _ _ _ _ _ _ _ _ _ => trivial
        cases ru with
        | non =>
          cases rv
          refine ⟨_, rfl, RIs.mk ru2 kb_NoneType_tuple ⟨_, rfl, ?_⟩⟩
          refine ifF rfl ⟨_, rfl, RIs.mk ru2 kb_NoneType_list ⟨_, rfl, ?_⟩⟩
          refine ifF rfl ⟨_, rfl, _, rfl, ifT rfl ?_⟩
          exact ⟨_, rfl, _, rfl, ifF rfl (nxt _)⟩
        | bl b =>
          cases rv
          refine ⟨_, rfl, RIs.mk ru2 kb_bool_tuple ⟨_, rfl, ?_⟩⟩
          refine ifF rfl ⟨_, rfl, RIs.mk ru2 kb_bool_list ⟨_, rfl, ?_⟩⟩
          refine ifF rfl ⟨_, rfl, _, rfl, ifF rfl ?_⟩
          refine ⟨_, rfl, RIs.mk ru2 kb_bool_bool ⟨_, rfl, ifT rfl ?_⟩⟩
          refine ⟨_, rfl, RIs.mk rv2 kb_bool_bool ⟨_, rfl, ifF rfl ?_⟩⟩
          refine ⟨_, rfl, _, rfl, rfl, _, rfl, ifF ?_ (nxt _)⟩
          simp
        | int j =>
          cases rv
          refine ⟨_, rfl, RIs.mk ru2 kb_int_tuple ⟨_, rfl, ?_⟩⟩
          refine ifF rfl ⟨_, rfl, RIs.mk ru2 kb_int_list ⟨_, rfl, ?_⟩⟩
          refine ifF rfl ⟨_, rfl, _, rfl, ifF rfl ?_⟩
          refine ⟨_, rfl, RIs.mk ru2 kb_int_bool ⟨_, rfl, ifF rfl ?_⟩⟩
          refine ⟨_, rfl, RIs.mk ru2 kb_int_int ⟨_, rfl, ifT rfl ?_⟩⟩
          refine ⟨_, rfl, RIs.mk rv2 kb_int_int ⟨_, rfl, ifF rfl ?_⟩⟩
          refine ⟨_, rfl, RIs.mk rv2 kb_int_bool ⟨_, rfl, ifF rfl ?_⟩⟩
          refine ⟨_, rfl, _, rfl, rfl, _, rfl, ifF ?_ (nxt _)⟩
          simp
        | str z =>
          cases rv
          refine ⟨_, rfl, RIs.mk ru2 kb_str_tuple ⟨_, rfl, ?_⟩⟩
          refine ifF rfl ⟨_, rfl, RIs.mk ru2 kb_str_list ⟨_, rfl, ?_⟩⟩
          refine ifF rfl ⟨_, rfl, _, rfl, ifF rfl ?_⟩
          refine ⟨_, rfl, RIs.mk ru2 kb_str_bool ⟨_, rfl, ifF rfl ?_⟩⟩
          refine ⟨_, rfl, RIs.mk ru2 kb_str_int ⟨_, rfl, ifF rfl ?_⟩⟩
          refine ⟨_, rfl, RIs.mk ru2 kb_str_str ⟨_, rfl, ifF rfl ?_⟩⟩
          refine ⟨_, rfl, RIs.mk rv2 kb_str_str ⟨_, rfl, ifF rfl ?_⟩⟩
          refine ⟨_, rfl, _, rfl, rfl, _, rfl, ifF ?_ (nxt _)⟩
          simp
        | @lst b us ds eb nb rb =>
          cases rv with
          | @lst a vs _ ea na ra =>
          refine ⟨_, rfl, RIs.mk ru2 kb_list_tuple ⟨_, rfl, ?_⟩⟩
          refine ifF rfl ⟨_, rfl, RIs.mk ru2 kb_list_list ⟨_, rfl, ?_⟩⟩
          refine ifT rfl ?_
          refine ⟨_, rfl, RIs.mk ru2 kb_list_tuple ⟨_, rfl, ifF rfl ?_⟩⟩
          refine ifF rfl ?_
          refine ⟨_, rfl, RIs.mk ru2 kb_list_list ⟨_, rfl, ifT rfl ?_⟩⟩
          refine ⟨_, rfl, RIs.mk rv2 kb_list_list ⟨_, rfl, ifF rfl ?_⟩⟩
          -- len(left) != len(right)
          refine ⟨_, rfl, a, vs, rfl, .inl (SqL.of (e2 _ _ ea)), _, rfl, b, us, rfl, .inl (SqL.of (e2 _ _ eb)), rfl, _, rfl, ifF (by simp [na, nb]) ?_⟩
          -- for k in range(len(right))
          refine ⟨_, rfl, b, us, rfl, .inl (SqL.of (e2 _ _ eb)), (us.length : Int), rfl, small62 (Nat.le_of_eq nb) (by have := D.size_pos (.lst ds); have := sizeL_len ds; simp only [D.size] at hs3; omega), small62' (Nat.le_of_eq nb) (by have := sizeL_len ds; simp only [D.size] at hs3; omega), ?_⟩
          rw [show ((us.length : Int)).toNat = ds.length from by rw [nb]; rfl]
          refine for_range (lo := 0) (n := ds.length) (fun j σ H2 => ∃ (ps : List (Addr × V × V × D)) (kk : Option V), σ = [some x0, some y0, some (.ref st), some (.int (0 + (i : Int))), some (.ref a), some (.ref b), kk] ∧ Ex H H2 ∧
            H2 st = some (.lst (ps.map fun p => .ref p.1)) ∧ (∀ p ∈ ps, p.1 ≠ st ∧ H2 p.1 = some (.tup [p.2.1, p.2.2.1]) ∧ Rep H p.2.1 p.2.2.2 ∧ Rep H p.2.2.1 p.2.2.2) ∧ (ps.map fun p => p.2.2.2.size).sum = (qs.map fun p => p.2.2.2.size).sum + sizeL (ds.take j)) ?_ ?_ ?_
          · exact ⟨qs, kk, rfl, e2, upd_same, hq, by simp [sizeL]⟩
          · rintro j σ H2 hj ⟨ps, kk2, rfl, e3, hs4, hall4, hsum4⟩
            have hja : j < vs.length := by omega
            have hjb : j < us.length := by omega
            have ga : vs[j]? = some vs[j] := List.getElem?_eq_getElem hja
            have gb : us[j]? = some us[j] := List.getElem?_eq_getElem hjb
            have gd : ds[j]? = some ds[j] := List.getElem?_eq_getElem hj
            have hz : ((0 : Int) + (j : Int)) = (j : Int) := by omega
            rw [hz]
            refine ⟨_, rfl, .inl ⟨rfl, _, SqL.of hs4⟩, _, rfl, _, rfl, .inl ⟨a, _, _, _, rfl, rfl, SqL.of (e3 _ _ ea), atI_nat ga, ?_⟩⟩
            refine ⟨_, rfl, _, rfl, .inl ⟨b, _, _, _, rfl, rfl, SqL.of (e3 _ _ eb), atI_nat gb, ?_⟩⟩
            refine ⟨(by show 2 ≤ sizeLine; decide), fun q hq2 => ?_⟩
            have nqs : q ≠ st := fun z => by
              rw [z, hs4] at hq2
              cases hq2
            have hl4 : ps.length ≤ 3000000 := by
              have a1 : ps.length ≤ (ps.map fun p => p.2.2.2.size).sum := len_sum ps
              have a2 := sizeL_take ds j
              have a3 : (qs.map fun p => p.2.2.2.size).sum + (1 + sizeL ds) + i ≤ d0.size := hs3
              omega
            refine ⟨st, _, .ref q, rfl, rfl, (by rw [upd_ne (Ne.symm nqs)]; exact hs4), (by rw [List.length_map, sizeLine_eq]; omega), ?_⟩
            refine ⟨ps ++ [(q, vs[j], us[j], ds[j])], _, rfl, (e3.trans (Ex.new hq2)).mut hst0, (by rw [upd_same, List.map_append]; rfl), fun p hp => ?_, ?_⟩
            · rcases List.mem_append.mp hp with hp | hp
              · obtain ⟨a1, a2, a3⟩ := hall4 p hp
                exact ⟨a1, by rw [upd_ne a1, upd_ne (ne_of_none a2 hq2)]; exact a2, a3⟩
              · rw [List.mem_singleton.mp hp]
                exact ⟨nqs, by rw [upd_ne nqs, upd_same], ra j _ _ ga gd, rb j _ _ gb gd⟩
            · rw [List.map_append, List.sum_append, hsum4, List.take_succ, gd, sizeL_app]
              simp [sizeL]
              omega
          · rintro σ H2 ⟨ps, kk2, rfl, e3, hs4, hall4, hsum4⟩
            rw [List.take_length] at hsum4
            refine ⟨ps, _, _, _, _, rfl, e3, hs4, hall4, ?_⟩
            have hsz2 : (D.lst ds).size = 1 + sizeL ds := rfl
            omega
        | @tup b us ds eb nb rb =>
          cases rv with
          | @tup a vs _ ea na ra =>
          refine ⟨_, rfl, RIs.mk ru2 kb_tuple_tuple ⟨_, rfl, ?_⟩⟩
          refine ifT rfl ?_
          refine ifT rfl ?_
          refine ⟨_, rfl, RIs.mk ru2 kb_tuple_tuple ⟨_, rfl, ifT rfl ?_⟩⟩
          refine ⟨_, rfl, RIs.mk rv2 kb_tuple_tuple ⟨_, rfl, ifF rfl ?_⟩⟩
          refine ⟨_, rfl, RIs.mk ru2 kb_tuple_list ⟨_, rfl, ifF rfl ?_⟩⟩
          refine ifF rfl ?_
          -- len(left) != len(right)
          refine ⟨_, rfl, a, vs, rfl, .inr (SqT.of (e2 _ _ ea)), _, rfl, b, us, rfl, .inr (SqT.of (e2 _ _ eb)), rfl, _, rfl, ifF (by simp [na, nb]) ?_⟩
          -- for k in range(len(right))
          refine ⟨_, rfl, b, us, rfl, .inr (SqT.of (e2 _ _ eb)), (us.length : Int), rfl, small62 (Nat.le_of_eq nb) (by have := D.size_pos (.tup ds); have := sizeL_len ds; simp only [D.size] at hs3; omega), small62' (Nat.le_of_eq nb) (by have := sizeL_len ds; simp only [D.size] at hs3; omega), ?_⟩
          rw [show ((us.length : Int)).toNat = ds.length from by rw [nb]; rfl]
          refine for_range (lo := 0) (n := ds.length) (fun j σ H2 => ∃ (ps : List (Addr × V × V × D)) (kk : Option V), σ = [some x0, some y0, some (.ref st), some (.int (0 + (i : Int))), some (.ref a), some (.ref b), kk] ∧ Ex H H2 ∧
            H2 st = some (.lst (ps.map fun p => .ref p.1)) ∧ (∀ p ∈ ps, p.1 ≠ st ∧ H2 p.1 = some (.tup [p.2.1, p.2.2.1]) ∧ Rep H p.2.1 p.2.2.2 ∧ Rep H p.2.2.1 p.2.2.2) ∧ (ps.map fun p => p.2.2.2.size).sum = (qs.map fun p => p.2.2.2.size).sum + sizeL (ds.take j)) ?_ ?_ ?_
          · exact ⟨qs, kk, rfl, e2, upd_same, hq, by simp [sizeL]⟩
          · rintro j σ H2 hj ⟨ps, kk2, rfl, e3, hs4, hall4, hsum4⟩
            have hja : j < vs.length := by omega
            have hjb : j < us.length := by omega
            have ga : vs[j]? = some vs[j] := List.getElem?_eq_getElem hja
            have gb : us[j]? = some us[j] := List.getElem?_eq_getElem hjb
            have gd : ds[j]? = some ds[j] := List.getElem?_eq_getElem hj
            have hz : ((0 : Int) + (j : Int)) = (j : Int) := by omega
            rw [hz]
            refine ⟨_, rfl, .inl ⟨rfl, _, SqL.of hs4⟩, _, rfl, _, rfl, .inr (.inl ⟨a, _, _, _, rfl, rfl, SqT.of (e3 _ _ ea), atI_nat ga, ?_⟩)⟩
            refine ⟨_, rfl, _, rfl, .inr (.inl ⟨b, _, _, _, rfl, rfl, SqT.of (e3 _ _ eb), atI_nat gb, ?_⟩)⟩
            refine ⟨(by show 2 ≤ sizeLine; decide), fun q hq2 => ?_⟩
            have nqs : q ≠ st := fun z => by
              rw [z, hs4] at hq2
              cases hq2
            have hl4 : ps.length ≤ 3000000 := by
              have a1 : ps.length ≤ (ps.map fun p => p.2.2.2.size).sum := len_sum ps
              have a2 := sizeL_take ds j
              have a3 : (qs.map fun p => p.2.2.2.size).sum + (1 + sizeL ds) + i ≤ d0.size := hs3
              omega
            refine ⟨st, _, .ref q, rfl, rfl, (by rw [upd_ne (Ne.symm nqs)]; exact hs4), (by rw [List.length_map, sizeLine_eq]; omega), ?_⟩
            refine ⟨ps ++ [(q, vs[j], us[j], ds[j])], _, rfl, (e3.trans (Ex.new hq2)).mut hst0, (by rw [upd_same, List.map_append]; rfl), fun p hp => ?_, ?_⟩
            · rcases List.mem_append.mp hp with hp | hp
              · obtain ⟨a1, a2, a3⟩ := hall4 p hp
                exact ⟨a1, by rw [upd_ne a1, upd_ne (ne_of_none a2 hq2)]; exact a2, a3⟩
              · rw [List.mem_singleton.mp hp]
                exact ⟨nqs, by rw [upd_ne nqs, upd_same], ra j _ _ ga gd, rb j _ _ gb gd⟩
            · rw [List.map_append, List.sum_append, hsum4, List.take_succ, gd, sizeL_app]
              simp [sizeL]
              omega
          · rintro σ H2 ⟨ps, kk2, rfl, e3, hs4, hall4, hsum4⟩
            rw [List.take_length] at hsum4
            refine ⟨ps, _, _, _, _, rfl, e3, hs4, hall4, ?_⟩
            have hsz2 : (D.tup ds).size = 1 + sizeL ds := rfl
            omega
    · rintro σ H' ⟨ps, c, l, r, kk, rfl, e1, hs, hall, hsum⟩
      omega
end
end K98
set_option Elab.async false
set_option linter.all false
set_option maxRecDepth 100000
set_option maxHeartbeats 4000000
namespace K98
open PySem PySem.Spec PyProof.Rows L2 XcV Evl HB
section
variable {P : Program} {w : World} {K : PySem.W.Frag} {mg : Str → Option Value} {base : Heap}
/-! ### the pool -/
structure PoolAt (H : Hp) (p c : Addr) (ns : List Int) (k : Int) : Prop where
  hp : H p = some (.lst [.ref c, .int k])
  hc : H c = some (.lst (ns.map V.int))
  ne : ns ≠ []
  k0 : 0 ≤ k
theorem PoolAt.pc {H : Hp} {p c : Addr} {ns : List Int} {k : Int} (h : PoolAt H p c ns k) : p ≠ c := fun z => by
  have a := h.hp
  rw [z, h.hc] at a
  have b := HO.lst.inj (Option.some.inj a)
  cases ns with
  | nil => cases b
  | cons x xs =>
    rw [List.map_cons] at b
    injection b with b1 _
    cases b1
theorem ixN_nat {n j : Nat} (h : j < n) : ixN n (j : Int) = some j := by
  unfold ixN
  rw [if_pos (by omega), if_pos (by omega)]
  rfl
abbrev s_law_take : Stmt := topS 24
theorem sc_law_take : FnScope ["pool", "many", "cells", "at", "cell", "number"] ["pool", "many"] (defScope s_law_take) := ⟨rfl, rfl, rfl, by decide +kernel, rfl, by decide +kernel, by decide +kernel⟩
/-- a number below m; only the pool has changed -/
def spTake : Sp := fun vs H Q _ => ∃ (p c : Addr) (ns : List Int) (k m : Int), vs = [.ref p, .int m] ∧ PoolAt H p c ns k ∧ k < 1000000000000 ∧ 0 < m ∧ m < 1073741824 ∧
  ∀ (r : Int) (ns' : List Int) (H' : Hp), 0 ≤ r → r < m → PoolAt H' p c ns' (k + 1) → hid [p, c] H' = hid [p, c] H → Q (.int r) H'
theorem ok_law_take {f : Addr} {fd : FuncData} (F : Fun K "_law_take" "_law_take" s_law_take f fd) (T : Tz mg) : FnOk P w K mg base CX0 1 f fd ["pool", "many"] spTake := by
  refine F.ok sc_law_take (fun vs H Q E h => ?_) (fun cdv A outer s H vs Q E hr h => ?_)
  · obtain ⟨p, c, ns, k, m, rfl, _⟩ := h
    rfl
  · obtain ⟨p, c, ns, k, m, rfl, hP, hk, hm0, hm1, kk⟩ := h
    have pc := hP.pc
    have k0 := hP.k0
    refine ⟨_, (pss_cons (ps_augS (pv 0) pe_int pget_list pe_int ip_add set_list)
  (pss_cons (ps_set (i := 2) sc_law_take.nd rfl (Or.inl rfl) (pe_ix ix_list (pv 0) pe_int (fun _ _ => rfl)))
  (pss_cons (ps_set (i := 3) sc_law_take.nd rfl (Or.inl rfl) (pe_op op_mod (pe_ix ix_list (pv 0) pe_int (fun _ _ => rfl)) (pe_callB call_len_seq (by rfl) T.z_len bt_len (pa_cons (pv 2) pa_nil))))
  (pss_cons (ps_set (i := 4) sc_law_take.nd rfl (Or.inl rfl) (pe_ix ix_list (pv 2) (pv 3) (fun _ _ => rfl)))
  (pss_cons (ps_if (pt_cmpR op_ge (pv 4) (pe_op op_pow pe_int pe_int) (nomark _)) (pss_cons (ps_asg (pe_op op_fdiv (pv 4) (pv 1)) (pg_sub (pv 2) (pv 3) set_list))
  (pss_one (ps_ret (pe_op op_mod (pe_callTy call_int1 (by rfl) T.z_int bt_int (pa_cons (pv 4) pa_nil)) (pv 1)))))
  pss_nil)
  (pss_cons (ps_set (i := 5) sc_law_take.nd rfl (Or.inl rfl) (pe_op op_mod (pe_op op_mul (pe_op op_add (pe_op op_mod (pe_callTy call_int1 (by rfl) T.z_int bt_int (pa_cons (pv 4) pa_nil)) pe_int) pe_int) (pe_op op_add (pe_op op_mul (pe_ix ix_list (pv 0) pe_int (fun _ _ => rfl)) pe_int) pe_int)) pe_int))
  (pss_cons (ps_set (i := 5) sc_law_take.nd rfl (Or.inl rfl) (pe_op op_mod (pe_op op_add (pe_op op_add (pe_op op_mul (pv 5) pe_int) (pe_op op_mul (pe_op op_mul (pe_ix ix_list (pv 0) pe_int (fun _ _ => rfl)) (pe_ix ix_list (pv 0) pe_int (fun _ _ => rfl))) pe_int)) (pe_op op_mul (pv 3) pe_int)) pe_int))
  (pss_one (ps_ret (pe_op op_mod (pe_op op_fdiv (pv 5) pe_int) (pv 1))))))))))), ?_⟩
    -- pool[1] += 1
    refine ⟨_, rfl, p, _, 1, .int k, rfl, rfl, SqL.of hP.hp, rfl, k, 1, rfl, rfl, p, _, 1, 1, rfl, rfl, hP.hp, rfl, ?_⟩
    -- cells = pool[0]; at = pool[1] % len(cells)
    refine ⟨_, rfl, p, _, 0, .ref c, rfl, rfl, SqL.of upd_same, rfl, ?_⟩
    have hc1 : (upd H p (.lst [.ref c, .int (k + 1)])) c = some (.lst (ns.map V.int)) := by
      rw [upd_ne (Ne.symm pc)]
      exact hP.hc
    have hlen : 0 < ns.length := by
      cases ns with
      | nil => exact absurd rfl hP.ne
      | cons _ _ => simp
    refine ⟨_, rfl, p, _, 1, .int (k + 1), rfl, rfl, SqL.of upd_same, rfl, _, rfl, c, _, rfl, .inl (SqL.of hc1), k + 1, _, rfl, rfl, (by simp; omega), ?_⟩
    -- cell = cells[at]
    have hat0 : 0 ≤ (k + 1) % (ns.length : Int) := Int.emod_nonneg _ (by omega)
    have hat1 : (k + 1) % (ns.length : Int) < ns.length := Int.emod_lt_of_pos _ (by omega)
    obtain ⟨j, hj⟩ : ∃ j : Nat, (k + 1) % (ns.length : Int) = (j : Int) := ⟨((k + 1) % (ns.length : Int)).toNat, by omega⟩
    have hj' : V.int ((k + 1) % ((ns.map V.int).length : Int)) = V.int (j : Int) := by
      rw [List.length_map, hj]
    have hjl : j < ns.length := by omega
    have hg : (ns.map V.int)[j]? = some (.int ns[j]) := by
      rw [List.getElem?_map, List.getElem?_eq_getElem hjl]
      rfl
    refine ⟨_, rfl, _, rfl, c, _, _, _, rfl, hj', SqL.of hc1, atI_nat hg, ?_⟩
    -- if cell >= 10 ** 18
    refine ⟨_, rfl, 10, 18, rfl, rfl, ⟨by decide, by decide, by decide⟩, _, _, rfl, rfl, _, rfl, ?_⟩
    refine ite2 (fun _ => ?_) (fun _ => ?_)
    · -- cells[at] = cell // many; return int(cell) % many
      refine ⟨_, rfl, _, rfl, _, m, rfl, rfl, ⟨hm0, hm1⟩, _, rfl, _, rfl, c, _, _, j, rfl, hj', hc1, ixN_nat (by rw [List.length_map]; exact hjl), ?_⟩
      refine ⟨_, rfl, .inl ⟨_, rfl, _, rfl, _, m, rfl, rfl, hm0, ?_⟩⟩
      refine kk _ (ns.set j (ns[j] / m)) _ (Int.emod_nonneg _ (by omega)) (Int.emod_lt_of_pos _ hm0) ⟨?_, ?_, ?_, by omega⟩ ?_
      · rw [upd_ne pc]
        exact upd_same
      · rw [upd_same, List.map_set]
      · intro z
        have a := congrArg List.length z
        rw [List.length_set] at a
        rw [a] at hlen
        exact absurd hlen (Nat.lt_irrefl _)
      · rw [hid_upd (by simp), hid_upd (by simp)]
    · -- the mixed number
      refine ⟨_, rfl, .inl ⟨_, rfl, _, _, rfl, rfl, (by show (0 : Int) < 2147483353; decide), _, _, rfl, rfl, ?_⟩⟩
      refine ⟨_, rfl, p, _, 1, .int (k + 1), rfl, rfl, SqL.of upd_same, rfl, _, _, rfl, rfl, .inr (by decide), _, _, rfl, rfl, _, _, rfl, rfl, .inl ?_, _, _, rfl, rfl, (by show (0 : Int) < 2147483477; decide), ?_⟩
      · have a1 := Int.emod_nonneg ns[j] (by decide : (2147483353 : Int) ≠ 0)
        have a2 := Int.emod_lt_of_pos ns[j] (by decide : (0 : Int) < 2147483353)
        omega
      refine ⟨_, rfl, _, _, rfl, rfl, .inr (by decide), ?_⟩
      refine ⟨_, rfl, p, _, 1, .int (k + 1), rfl, rfl, SqL.of upd_same, rfl, _, rfl, p, _, 1, .int (k + 1), rfl, rfl, SqL.of upd_same, rfl, _, _, rfl, rfl, .inl ⟨by omega, by omega⟩, _, _, rfl, rfl, .inr (by decide), _, _, rfl, rfl, ?_⟩
      refine ⟨_, rfl, _, _, rfl, rfl, .inr (by decide), _, _, rfl, rfl, _, _, rfl, rfl, (by show (0 : Int) < 2147483423; decide), ?_⟩
      refine ⟨_, rfl, _, _, rfl, rfl, ⟨by decide, by decide⟩, _, rfl, _, m, rfl, rfl, hm0, ?_⟩
      refine kk _ ns _ (Int.emod_nonneg _ (by omega)) (Int.emod_lt_of_pos _ hm0) ⟨upd_same, hc1, hP.ne, by omega⟩ ?_
      rw [hid_upd (by simp)]
end
end K98
set_option Elab.async false
set_option linter.all false
set_option maxRecDepth 100000
set_option maxHeartbeats 4000000
namespace K98
open PySem PySem.Spec PyProof.Rows L2 XcV Evl HB
/-- what the top has left of an own exception class with fields: at C, its __init__ at fI -/
structure Xc (K : PySem.W.Frag) (mg : Str → Option Value) (x q : Str) (st : Stmt) (ps : List Str) where
  C : Addr
  fI : Addr
  fd : FuncData
  g : mg x = some (.ref C)
  m : XInit K C fI
  F : Fun K "__init__" q st fI fd
  xf : XfC K C
  ec : ExcC K C
  nf : ∀ f ∈ ps, PySem.W.findIn K (.ref C) f = some none
def spInit (C : Addr) (names : List Str) : Sp := fun vs H Q _ => ∃ (a : Addr) (ys : List V), vs = .ref a :: ys ∧ ys.length = names.length ∧ H a = some (exo a C none) ∧
  ∀ (d : Addr) (H' : Hp), H d = none → d ≠ a → H' a = some (exo a C (some d)) → H' d = some (exd d (names.zip ys).reverse) → (∀ b o, b ≠ a → H b = some o → H' b = some o) → Q .non H'
theorem len1 {ys : List V} {n : Str} (h : ys.length = [n].length) : ∃ y, ys = [y] := match ys, h with | [y], _ => ⟨y, rfl⟩
theorem len2 {ys : List V} {n m : Str} (h : ys.length = [n, m].length) : ∃ y z, ys = [y, z] := match ys, h with | [y, z], _ => ⟨y, z, rfl⟩
theorem vals_rev : ∀ {xs : List V} {us : List Value}, Vals xs us → Vals xs.reverse us.reverse
  | _, _, .nil => .nil
  | _, _, .cons r t => by
    rw [List.reverse_cons, List.reverse_cons]
    exact (vals_rev t).append (.cons r .nil)
section
variable {P : Program} {w : World} {K : PySem.W.Frag} {mg : Str → Option Value} {base : Heap}
abbrev sI_BadName : Stmt := inClass (topS 6) 0
theorem scI_BadName : FnScope ["self", "at"] ["self", "at"] (defScope sI_BadName) := ⟨rfl, rfl, rfl, by decide +kernel, rfl, by decide +kernel, by decide +kernel⟩
theorem okI_BadName (T : Xc K mg "BadName" "BadName.__init__" sI_BadName ["at"]) : FnOk P w K mg base CX0 1 T.fI T.fd ["self", "at"] (spInit T.C ["at"]) := by
  refine T.F.ok scI_BadName (fun vs H Q E h => ?_) (fun cdv A outer s H vs Q E hr h => ?_)
  · obtain ⟨a, ys, rfl, hl, _⟩ := h
    rw [List.length_cons, hl]
    rfl
  · obtain ⟨a, ys, rfl, hl, ha, k⟩ := h
    obtain ⟨y, rfl⟩ := len1 hl
    refine ⟨_, (pss_one (ps_ost (pv 0) (pv 1))), ?_⟩
    refine ⟨_, rfl, _, rfl, a, T.C, rfl, T.m.T, T.nf _ (by simp), .inl ⟨ha, fun dx hdx hne => ?_⟩⟩
    refine k dx _ hdx hne upd_same (by rw [upd_ne hne, upd_same]; rfl) fun b o hb hbo => ?_
    rw [upd_ne hb, upd_ne (ne_of_none hbo hdx)]
    exact hbo
theorem bI_BadName (T : Xc K mg "BadName" "BadName.__init__" sI_BadName ["at"]) : Binds K T.fd ["self", "at"] [] := T.F.binds (ps := ["self", "at"]) fun _ _ _ _ _ _ us hl => match us, hl with | [_, _], _ => rfl
theorem kI_BadName (T : Xc K mg "BadName" "BadName.__init__" sI_BadName ["at"]) : KBn K T.fd ["self", "at"] 1 ["at"] (fun us ws => us ++ ws) (fun us ws => us ++ ws) := by
  obtain ⟨oc, od, kV, doc, pm, an, cdv, ct, osl, e, lk, hcd⟩ := T.F.ex
  rw [e]
  exact ⟨fun s us ws _ hl hw => match us, ws, hl, hw with | [_], [_], _, _ => .of_eq rfl, fun r1 r2 => r1.append r2⟩
abbrev sI_BadHands : Stmt := inClass (topS 7) 0
theorem scI_BadHands : FnScope ["self", "at", "word"] ["self", "at", "word"] (defScope sI_BadHands) := ⟨rfl, rfl, rfl, by decide +kernel, rfl, by decide +kernel, by decide +kernel⟩
theorem okI_BadHands (T : Xc K mg "BadHands" "BadHands.__init__" sI_BadHands ["at", "word"]) : FnOk P w K mg base CX0 1 T.fI T.fd ["self", "at", "word"] (spInit T.C ["at", "word"]) := by
  refine T.F.ok scI_BadHands (fun vs H Q E h => ?_) (fun cdv A outer s H vs Q E hr h => ?_)
  · obtain ⟨a, ys, rfl, hl, _⟩ := h
    rw [List.length_cons, hl]
    rfl
  · obtain ⟨a, ys, rfl, hl, ha, k⟩ := h
    obtain ⟨y, z, rfl⟩ := len2 hl
    refine ⟨_, (pss_cons (ps_ost (pv 0) (pv 1)) (pss_one (ps_ost (pv 0) (pv 2)))), ?_⟩
    refine ⟨_, rfl, _, rfl, a, T.C, rfl, T.m.T, T.nf _ (by simp), .inl ⟨ha, fun dx hdx hne => ?_⟩⟩
    refine ⟨_, rfl, _, rfl, a, T.C, rfl, T.m.T, T.nf _ (by simp), .inr ⟨dx, _, upd_same, (by rw [upd_ne hne, upd_same]), (by show 1 ≤ 900; decide), ?_⟩⟩
    refine k dx _ hdx hne (by rw [upd_ne (Ne.symm hne), upd_same]) upd_same fun b o hb hbo => ?_
    rw [upd_ne (ne_of_none hbo hdx), upd_ne hb, upd_ne (ne_of_none hbo hdx)]
    exact hbo
theorem bI_BadHands (T : Xc K mg "BadHands" "BadHands.__init__" sI_BadHands ["at", "word"]) : Binds K T.fd ["self", "at", "word"] [] := T.F.binds (ps := ["self", "at", "word"]) fun _ _ _ _ _ _ us hl => match us, hl with | [_, _, _], _ => rfl
theorem kI_BadHands (T : Xc K mg "BadHands" "BadHands.__init__" sI_BadHands ["at", "word"]) : KBn K T.fd ["self", "at", "word"] 1 ["word", "at"] (fun us ws => us ++ ws.reverse) (fun us ws => us ++ ws.reverse) := by
  obtain ⟨oc, od, kV, doc, pm, an, cdv, ct, osl, e, lk, hcd⟩ := T.F.ex
  rw [e]
  exact ⟨fun s us ws _ hl hw => match us, ws, hl, hw with | [_], [_, _], _, _ => .of_eq rfl, fun r1 r2 => r1.append (vals_rev r2)⟩
abbrev sI_BadCalendar : Stmt := inClass (topS 8) 0
theorem scI_BadCalendar : FnScope ["self", "at", "word"] ["self", "at", "word"] (defScope sI_BadCalendar) := ⟨rfl, rfl, rfl, by decide +kernel, rfl, by decide +kernel, by decide +kernel⟩
theorem okI_BadCalendar (T : Xc K mg "BadCalendar" "BadCalendar.__init__" sI_BadCalendar ["at", "word"]) : FnOk P w K mg base CX0 1 T.fI T.fd ["self", "at", "word"] (spInit T.C ["at", "word"]) := by
  refine T.F.ok scI_BadCalendar (fun vs H Q E h => ?_) (fun cdv A outer s H vs Q E hr h => ?_)
  · obtain ⟨a, ys, rfl, hl, _⟩ := h
    rw [List.length_cons, hl]
    rfl
  · obtain ⟨a, ys, rfl, hl, ha, k⟩ := h
    obtain ⟨y, z, rfl⟩ := len2 hl
    refine ⟨_, (pss_cons (ps_ost (pv 0) (pv 1)) (pss_one (ps_ost (pv 0) (pv 2)))), ?_⟩
    refine ⟨_, rfl, _, rfl, a, T.C, rfl, T.m.T, T.nf _ (by simp), .inl ⟨ha, fun dx hdx hne => ?_⟩⟩
    refine ⟨_, rfl, _, rfl, a, T.C, rfl, T.m.T, T.nf _ (by simp), .inr ⟨dx, _, upd_same, (by rw [upd_ne hne, upd_same]), (by show 1 ≤ 900; decide), ?_⟩⟩
    refine k dx _ hdx hne (by rw [upd_ne (Ne.symm hne), upd_same]) upd_same fun b o hb hbo => ?_
    rw [upd_ne (ne_of_none hbo hdx), upd_ne hb, upd_ne (ne_of_none hbo hdx)]
    exact hbo
theorem bI_BadCalendar (T : Xc K mg "BadCalendar" "BadCalendar.__init__" sI_BadCalendar ["at", "word"]) : Binds K T.fd ["self", "at", "word"] [] := T.F.binds (ps := ["self", "at", "word"]) fun _ _ _ _ _ _ us hl => match us, hl with | [_, _, _], _ => rfl
theorem kI_BadCalendar (T : Xc K mg "BadCalendar" "BadCalendar.__init__" sI_BadCalendar ["at", "word"]) : KBn K T.fd ["self", "at", "word"] 1 ["word", "at"] (fun us ws => us ++ ws.reverse) (fun us ws => us ++ ws.reverse) := by
  obtain ⟨oc, od, kV, doc, pm, an, cdv, ct, osl, e, lk, hcd⟩ := T.F.ex
  rw [e]
  exact ⟨fun s us ws _ hl hw => match us, ws, hl, hw with | [_], [_, _], _, _ => .of_eq rfl, fun r1 r2 => r1.append (vals_rev r2)⟩
abbrev sI_BadSheet : Stmt := inClass (topS 9) 0
theorem scI_BadSheet : FnScope ["self", "at", "word"] ["self", "at", "word"] (defScope sI_BadSheet) := ⟨rfl, rfl, rfl, by decide +kernel, rfl, by decide +kernel, by decide +kernel⟩
theorem okI_BadSheet (T : Xc K mg "BadSheet" "BadSheet.__init__" sI_BadSheet ["at", "word"]) : FnOk P w K mg base CX0 1 T.fI T.fd ["self", "at", "word"] (spInit T.C ["at", "word"]) := by
  refine T.F.ok scI_BadSheet (fun vs H Q E h => ?_) (fun cdv A outer s H vs Q E hr h => ?_)
  · obtain ⟨a, ys, rfl, hl, _⟩ := h
    rw [List.length_cons, hl]
    rfl
  · obtain ⟨a, ys, rfl, hl, ha, k⟩ := h
    obtain ⟨y, z, rfl⟩ := len2 hl
    refine ⟨_, (pss_cons (ps_ost (pv 0) (pv 1)) (pss_one (ps_ost (pv 0) (pv 2)))), ?_⟩
    refine ⟨_, rfl, _, rfl, a, T.C, rfl, T.m.T, T.nf _ (by simp), .inl ⟨ha, fun dx hdx hne => ?_⟩⟩
    refine ⟨_, rfl, _, rfl, a, T.C, rfl, T.m.T, T.nf _ (by simp), .inr ⟨dx, _, upd_same, (by rw [upd_ne hne, upd_same]), (by show 1 ≤ 900; decide), ?_⟩⟩
    refine k dx _ hdx hne (by rw [upd_ne (Ne.symm hne), upd_same]) upd_same fun b o hb hbo => ?_
    rw [upd_ne (ne_of_none hbo hdx), upd_ne hb, upd_ne (ne_of_none hbo hdx)]
    exact hbo
theorem bI_BadSheet (T : Xc K mg "BadSheet" "BadSheet.__init__" sI_BadSheet ["at", "word"]) : Binds K T.fd ["self", "at", "word"] [] := T.F.binds (ps := ["self", "at", "word"]) fun _ _ _ _ _ _ us hl => match us, hl with | [_, _, _], _ => rfl
theorem kI_BadSheet (T : Xc K mg "BadSheet" "BadSheet.__init__" sI_BadSheet ["at", "word"]) : KBn K T.fd ["self", "at", "word"] 1 ["word", "at"] (fun us ws => us ++ ws.reverse) (fun us ws => us ++ ws.reverse) := by
  obtain ⟨oc, od, kV, doc, pm, an, cdv, ct, osl, e, lk, hcd⟩ := T.F.ex
  rw [e]
  exact ⟨fun s us ws _ hl hw => match us, ws, hl, hw with | [_], [_, _], _, _ => .of_eq rfl, fun r1 r2 => r1.append (vals_rev r2)⟩
abbrev sI_BadPlan : Stmt := inClass (topS 10) 0
theorem scI_BadPlan : FnScope ["self", "at", "word"] ["self", "at", "word"] (defScope sI_BadPlan) := ⟨rfl, rfl, rfl, by decide +kernel, rfl, by decide +kernel, by decide +kernel⟩
theorem okI_BadPlan (T : Xc K mg "BadPlan" "BadPlan.__init__" sI_BadPlan ["at", "word"]) : FnOk P w K mg base CX0 1 T.fI T.fd ["self", "at", "word"] (spInit T.C ["at", "word"]) := by
  refine T.F.ok scI_BadPlan (fun vs H Q E h => ?_) (fun cdv A outer s H vs Q E hr h => ?_)
  · obtain ⟨a, ys, rfl, hl, _⟩ := h
    rw [List.length_cons, hl]
    rfl
  · obtain ⟨a, ys, rfl, hl, ha, k⟩ := h
    obtain ⟨y, z, rfl⟩ := len2 hl
    refine ⟨_, (pss_cons (ps_ost (pv 0) (pv 1)) (pss_one (ps_ost (pv 0) (pv 2)))), ?_⟩
    refine ⟨_, rfl, _, rfl, a, T.C, rfl, T.m.T, T.nf _ (by simp), .inl ⟨ha, fun dx hdx hne => ?_⟩⟩
    refine ⟨_, rfl, _, rfl, a, T.C, rfl, T.m.T, T.nf _ (by simp), .inr ⟨dx, _, upd_same, (by rw [upd_ne hne, upd_same]), (by show 1 ≤ 900; decide), ?_⟩⟩
    refine k dx _ hdx hne (by rw [upd_ne (Ne.symm hne), upd_same]) upd_same fun b o hb hbo => ?_
    rw [upd_ne (ne_of_none hbo hdx), upd_ne hb, upd_ne (ne_of_none hbo hdx)]
    exact hbo
theorem bI_BadPlan (T : Xc K mg "BadPlan" "BadPlan.__init__" sI_BadPlan ["at", "word"]) : Binds K T.fd ["self", "at", "word"] [] := T.F.binds (ps := ["self", "at", "word"]) fun _ _ _ _ _ _ us hl => match us, hl with | [_, _, _], _ => rfl
theorem kI_BadPlan (T : Xc K mg "BadPlan" "BadPlan.__init__" sI_BadPlan ["at", "word"]) : KBn K T.fd ["self", "at", "word"] 1 ["word", "at"] (fun us ws => us ++ ws.reverse) (fun us ws => us ++ ws.reverse) := by
  obtain ⟨oc, od, kV, doc, pm, an, cdv, ct, osl, e, lk, hcd⟩ := T.F.ex
  rw [e]
  exact ⟨fun s us ws _ hl hw => match us, ws, hl, hw with | [_], [_, _], _, _ => .of_eq rfl, fun r1 r2 => r1.append (vals_rev r2)⟩
abbrev sI_BadLadders : Stmt := inClass (topS 12) 0
theorem scI_BadLadders : FnScope ["self", "at", "word"] ["self", "at", "word"] (defScope sI_BadLadders) := ⟨rfl, rfl, rfl, by decide +kernel, rfl, by decide +kernel, by decide +kernel⟩
theorem okI_BadLadders (T : Xc K mg "BadLadders" "BadLadders.__init__" sI_BadLadders ["at", "word"]) : FnOk P w K mg base CX0 1 T.fI T.fd ["self", "at", "word"] (spInit T.C ["at", "word"]) := by
  refine T.F.ok scI_BadLadders (fun vs H Q E h => ?_) (fun cdv A outer s H vs Q E hr h => ?_)
  · obtain ⟨a, ys, rfl, hl, _⟩ := h
    rw [List.length_cons, hl]
    rfl
  · obtain ⟨a, ys, rfl, hl, ha, k⟩ := h
    obtain ⟨y, z, rfl⟩ := len2 hl
    refine ⟨_, (pss_cons (ps_ost (pv 0) (pv 1)) (pss_one (ps_ost (pv 0) (pv 2)))), ?_⟩
    refine ⟨_, rfl, _, rfl, a, T.C, rfl, T.m.T, T.nf _ (by simp), .inl ⟨ha, fun dx hdx hne => ?_⟩⟩
    refine ⟨_, rfl, _, rfl, a, T.C, rfl, T.m.T, T.nf _ (by simp), .inr ⟨dx, _, upd_same, (by rw [upd_ne hne, upd_same]), (by show 1 ≤ 900; decide), ?_⟩⟩
    refine k dx _ hdx hne (by rw [upd_ne (Ne.symm hne), upd_same]) upd_same fun b o hb hbo => ?_
    rw [upd_ne (ne_of_none hbo hdx), upd_ne hb, upd_ne (ne_of_none hbo hdx)]
    exact hbo
theorem bI_BadLadders (T : Xc K mg "BadLadders" "BadLadders.__init__" sI_BadLadders ["at", "word"]) : Binds K T.fd ["self", "at", "word"] [] := T.F.binds (ps := ["self", "at", "word"]) fun _ _ _ _ _ _ us hl => match us, hl with | [_, _, _], _ => rfl
theorem kI_BadLadders (T : Xc K mg "BadLadders" "BadLadders.__init__" sI_BadLadders ["at", "word"]) : KBn K T.fd ["self", "at", "word"] 1 ["word", "at"] (fun us ws => us ++ ws.reverse) (fun us ws => us ++ ws.reverse) := by
  obtain ⟨oc, od, kV, doc, pm, an, cdv, ct, osl, e, lk, hcd⟩ := T.F.ex
  rw [e]
  exact ⟨fun s us ws _ hl hw => match us, ws, hl, hw with | [_], [_, _], _, _ => .of_eq rfl, fun r1 r2 => r1.append (vals_rev r2)⟩
abbrev sI_BadHouse : Stmt := inClass (topS 13) 0
theorem scI_BadHouse : FnScope ["self", "at", "word"] ["self", "at", "word"] (defScope sI_BadHouse) := ⟨rfl, rfl, rfl, by decide +kernel, rfl, by decide +kernel, by decide +kernel⟩
theorem okI_BadHouse (T : Xc K mg "BadHouse" "BadHouse.__init__" sI_BadHouse ["at", "word"]) : FnOk P w K mg base CX0 1 T.fI T.fd ["self", "at", "word"] (spInit T.C ["at", "word"]) := by
  refine T.F.ok scI_BadHouse (fun vs H Q E h => ?_) (fun cdv A outer s H vs Q E hr h => ?_)
  · obtain ⟨a, ys, rfl, hl, _⟩ := h
    rw [List.length_cons, hl]
    rfl
  · obtain ⟨a, ys, rfl, hl, ha, k⟩ := h
    obtain ⟨y, z, rfl⟩ := len2 hl
    refine ⟨_, (pss_cons (ps_ost (pv 0) (pv 1)) (pss_one (ps_ost (pv 0) (pv 2)))), ?_⟩
    refine ⟨_, rfl, _, rfl, a, T.C, rfl, T.m.T, T.nf _ (by simp), .inl ⟨ha, fun dx hdx hne => ?_⟩⟩
    refine ⟨_, rfl, _, rfl, a, T.C, rfl, T.m.T, T.nf _ (by simp), .inr ⟨dx, _, upd_same, (by rw [upd_ne hne, upd_same]), (by show 1 ≤ 900; decide), ?_⟩⟩
    refine k dx _ hdx hne (by rw [upd_ne (Ne.symm hne), upd_same]) upd_same fun b o hb hbo => ?_
    rw [upd_ne (ne_of_none hbo hdx), upd_ne hb, upd_ne (ne_of_none hbo hdx)]
    exact hbo
theorem bI_BadHouse (T : Xc K mg "BadHouse" "BadHouse.__init__" sI_BadHouse ["at", "word"]) : Binds K T.fd ["self", "at", "word"] [] := T.F.binds (ps := ["self", "at", "word"]) fun _ _ _ _ _ _ us hl => match us, hl with | [_, _, _], _ => rfl
theorem kI_BadHouse (T : Xc K mg "BadHouse" "BadHouse.__init__" sI_BadHouse ["at", "word"]) : KBn K T.fd ["self", "at", "word"] 1 ["word", "at"] (fun us ws => us ++ ws.reverse) (fun us ws => us ++ ws.reverse) := by
  obtain ⟨oc, od, kV, doc, pm, an, cdv, ct, osl, e, lk, hcd⟩ := T.F.ex
  rw [e]
  exact ⟨fun s us ws _ hl hw => match us, ws, hl, hw with | [_], [_, _], _, _ => .of_eq rfl, fun r1 r2 => r1.append (vals_rev r2)⟩
abbrev sI_BadBare : Stmt := inClass (topS 14) 0
theorem scI_BadBare : FnScope ["self", "at", "word"] ["self", "at", "word"] (defScope sI_BadBare) := ⟨rfl, rfl, rfl, by decide +kernel, rfl, by decide +kernel, by decide +kernel⟩
theorem okI_BadBare (T : Xc K mg "BadBare" "BadBare.__init__" sI_BadBare ["at", "word"]) : FnOk P w K mg base CX0 1 T.fI T.fd ["self", "at", "word"] (spInit T.C ["at", "word"]) := by
  refine T.F.ok scI_BadBare (fun vs H Q E h => ?_) (fun cdv A outer s H vs Q E hr h => ?_)
  · obtain ⟨a, ys, rfl, hl, _⟩ := h
    rw [List.length_cons, hl]
    rfl
  · obtain ⟨a, ys, rfl, hl, ha, k⟩ := h
    obtain ⟨y, z, rfl⟩ := len2 hl
    refine ⟨_, (pss_cons (ps_ost (pv 0) (pv 1)) (pss_one (ps_ost (pv 0) (pv 2)))), ?_⟩
    refine ⟨_, rfl, _, rfl, a, T.C, rfl, T.m.T, T.nf _ (by simp), .inl ⟨ha, fun dx hdx hne => ?_⟩⟩
    refine ⟨_, rfl, _, rfl, a, T.C, rfl, T.m.T, T.nf _ (by simp), .inr ⟨dx, _, upd_same, (by rw [upd_ne hne, upd_same]), (by show 1 ≤ 900; decide), ?_⟩⟩
    refine k dx _ hdx hne (by rw [upd_ne (Ne.symm hne), upd_same]) upd_same fun b o hb hbo => ?_
    rw [upd_ne (ne_of_none hbo hdx), upd_ne hb, upd_ne (ne_of_none hbo hdx)]
    exact hbo
theorem bI_BadBare (T : Xc K mg "BadBare" "BadBare.__init__" sI_BadBare ["at", "word"]) : Binds K T.fd ["self", "at", "word"] [] := T.F.binds (ps := ["self", "at", "word"]) fun _ _ _ _ _ _ us hl => match us, hl with | [_, _, _], _ => rfl
theorem kI_BadBare (T : Xc K mg "BadBare" "BadBare.__init__" sI_BadBare ["at", "word"]) : KBn K T.fd ["self", "at", "word"] 1 ["word", "at"] (fun us ws => us ++ ws.reverse) (fun us ws => us ++ ws.reverse) := by
  obtain ⟨oc, od, kV, doc, pm, an, cdv, ct, osl, e, lk, hcd⟩ := T.F.ex
  rw [e]
  exact ⟨fun s us ws _ hl hw => match us, ws, hl, hw with | [_], [_, _], _, _ => .of_eq rfl, fun r1 r2 => r1.append (vals_rev r2)⟩
abbrev sI_BadJobs : Stmt := inClass (topS 15) 0
theorem scI_BadJobs : FnScope ["self", "at", "word"] ["self", "at", "word"] (defScope sI_BadJobs) := ⟨rfl, rfl, rfl, by decide +kernel, rfl, by decide +kernel, by decide +kernel⟩
theorem okI_BadJobs (T : Xc K mg "BadJobs" "BadJobs.__init__" sI_BadJobs ["at", "word"]) : FnOk P w K mg base CX0 1 T.fI T.fd ["self", "at", "word"] (spInit T.C ["at", "word"]) := by
  refine T.F.ok scI_BadJobs (fun vs H Q E h => ?_) (fun cdv A outer s H vs Q E hr h => ?_)
  · obtain ⟨a, ys, rfl, hl, _⟩ := h
    rw [List.length_cons, hl]
    rfl
  · obtain ⟨a, ys, rfl, hl, ha, k⟩ := h
    obtain ⟨y, z, rfl⟩ := len2 hl
    refine ⟨_, (pss_cons (ps_ost (pv 0) (pv 1)) (pss_one (ps_ost (pv 0) (pv 2)))), ?_⟩
    refine ⟨_, rfl, _, rfl, a, T.C, rfl, T.m.T, T.nf _ (by simp), .inl ⟨ha, fun dx hdx hne => ?_⟩⟩
    refine ⟨_, rfl, _, rfl, a, T.C, rfl, T.m.T, T.nf _ (by simp), .inr ⟨dx, _, upd_same, (by rw [upd_ne hne, upd_same]), (by show 1 ≤ 900; decide), ?_⟩⟩
    refine k dx _ hdx hne (by rw [upd_ne (Ne.symm hne), upd_same]) upd_same fun b o hb hbo => ?_
    rw [upd_ne (ne_of_none hbo hdx), upd_ne hb, upd_ne (ne_of_none hbo hdx)]
    exact hbo
theorem bI_BadJobs (T : Xc K mg "BadJobs" "BadJobs.__init__" sI_BadJobs ["at", "word"]) : Binds K T.fd ["self", "at", "word"] [] := T.F.binds (ps := ["self", "at", "word"]) fun _ _ _ _ _ _ us hl => match us, hl with | [_, _, _], _ => rfl
theorem kI_BadJobs (T : Xc K mg "BadJobs" "BadJobs.__init__" sI_BadJobs ["at", "word"]) : KBn K T.fd ["self", "at", "word"] 1 ["word", "at"] (fun us ws => us ++ ws.reverse) (fun us ws => us ++ ws.reverse) := by
  obtain ⟨oc, od, kV, doc, pm, an, cdv, ct, osl, e, lk, hcd⟩ := T.F.ex
  rw [e]
  exact ⟨fun s us ws _ hl hw => match us, ws, hl, hw with | [_], [_, _], _, _ => .of_eq rfl, fun r1 r2 => r1.append (vals_rev r2)⟩
abbrev sI_BadJournal : Stmt := inClass (topS 16) 0
theorem scI_BadJournal : FnScope ["self", "at", "word"] ["self", "at", "word"] (defScope sI_BadJournal) := ⟨rfl, rfl, rfl, by decide +kernel, rfl, by decide +kernel, by decide +kernel⟩
theorem okI_BadJournal (T : Xc K mg "BadJournal" "BadJournal.__init__" sI_BadJournal ["at", "word"]) : FnOk P w K mg base CX0 1 T.fI T.fd ["self", "at", "word"] (spInit T.C ["at", "word"]) := by
  refine T.F.ok scI_BadJournal (fun vs H Q E h => ?_) (fun cdv A outer s H vs Q E hr h => ?_)
  · obtain ⟨a, ys, rfl, hl, _⟩ := h
    rw [List.length_cons, hl]
    rfl
  · obtain ⟨a, ys, rfl, hl, ha, k⟩ := h
    obtain ⟨y, z, rfl⟩ := len2 hl
    refine ⟨_, (pss_cons (ps_ost (pv 0) (pv 1)) (pss_one (ps_ost (pv 0) (pv 2)))), ?_⟩
    refine ⟨_, rfl, _, rfl, a, T.C, rfl, T.m.T, T.nf _ (by simp), .inl ⟨ha, fun dx hdx hne => ?_⟩⟩
    refine ⟨_, rfl, _, rfl, a, T.C, rfl, T.m.T, T.nf _ (by simp), .inr ⟨dx, _, upd_same, (by rw [upd_ne hne, upd_same]), (by show 1 ≤ 900; decide), ?_⟩⟩
    refine k dx _ hdx hne (by rw [upd_ne (Ne.symm hne), upd_same]) upd_same fun b o hb hbo => ?_
    rw [upd_ne (ne_of_none hbo hdx), upd_ne hb, upd_ne (ne_of_none hbo hdx)]
    exact hbo
theorem bI_BadJournal (T : Xc K mg "BadJournal" "BadJournal.__init__" sI_BadJournal ["at", "word"]) : Binds K T.fd ["self", "at", "word"] [] := T.F.binds (ps := ["self", "at", "word"]) fun _ _ _ _ _ _ us hl => match us, hl with | [_, _, _], _ => rfl
theorem kI_BadJournal (T : Xc K mg "BadJournal" "BadJournal.__init__" sI_BadJournal ["at", "word"]) : KBn K T.fd ["self", "at", "word"] 1 ["word", "at"] (fun us ws => us ++ ws.reverse) (fun us ws => us ++ ws.reverse) := by
  obtain ⟨oc, od, kV, doc, pm, an, cdv, ct, osl, e, lk, hcd⟩ := T.F.ex
  rw [e]
  exact ⟨fun s us ws _ hl hw => match us, ws, hl, hw with | [_], [_, _], _, _ => .of_eq rfl, fun r1 r2 => r1.append (vals_rev r2)⟩
abbrev sI_BadClaim : Stmt := inClass (topS 11) 0
theorem scI_BadClaim : FnScope ["self", "word"] ["self", "word"] (defScope sI_BadClaim) := ⟨rfl, rfl, rfl, by decide +kernel, rfl, by decide +kernel, by decide +kernel⟩
theorem okI_BadClaim (T : Xc K mg "BadClaim" "BadClaim.__init__" sI_BadClaim ["word"]) : FnOk P w K mg base CX0 1 T.fI T.fd ["self", "word"] (spInit T.C ["word"]) := by
  refine T.F.ok scI_BadClaim (fun vs H Q E h => ?_) (fun cdv A outer s H vs Q E hr h => ?_)
  · obtain ⟨a, ys, rfl, hl, _⟩ := h
    rw [List.length_cons, hl]
    rfl
  · obtain ⟨a, ys, rfl, hl, ha, k⟩ := h
    obtain ⟨y, rfl⟩ := len1 hl
    refine ⟨_, (pss_one (ps_ost (pv 0) (pv 1))), ?_⟩
    refine ⟨_, rfl, _, rfl, a, T.C, rfl, T.m.T, T.nf _ (by simp), .inl ⟨ha, fun dx hdx hne => ?_⟩⟩
    refine k dx _ hdx hne upd_same (by rw [upd_ne hne, upd_same]; rfl) fun b o hb hbo => ?_
    rw [upd_ne hb, upd_ne (ne_of_none hbo hdx)]
    exact hbo
theorem bI_BadClaim (T : Xc K mg "BadClaim" "BadClaim.__init__" sI_BadClaim ["word"]) : Binds K T.fd ["self", "word"] [] := T.F.binds (ps := ["self", "word"]) fun _ _ _ _ _ _ us hl => match us, hl with | [_, _], _ => rfl
theorem kI_BadClaim (T : Xc K mg "BadClaim" "BadClaim.__init__" sI_BadClaim ["word"]) : KBn K T.fd ["self", "word"] 1 ["word"] (fun us ws => us ++ ws) (fun us ws => us ++ ws) := by
  obtain ⟨oc, od, kV, doc, pm, an, cdv, ct, osl, e, lk, hcd⟩ := T.F.ex
  rw [e]
  exact ⟨fun s us ws _ hl hw => match us, ws, hl, hw with | [_], [_], _, _ => .of_eq rfl, fun r1 r2 => r1.append r2⟩
abbrev sI_BadStep : Stmt := inClass (topS 17) 0
theorem scI_BadStep : FnScope ["self", "word"] ["self", "word"] (defScope sI_BadStep) := ⟨rfl, rfl, rfl, by decide +kernel, rfl, by decide +kernel, by decide +kernel⟩
theorem okI_BadStep (T : Xc K mg "BadStep" "BadStep.__init__" sI_BadStep ["word"]) : FnOk P w K mg base CX0 1 T.fI T.fd ["self", "word"] (spInit T.C ["word"]) := by
  refine T.F.ok scI_BadStep (fun vs H Q E h => ?_) (fun cdv A outer s H vs Q E hr h => ?_)
  · obtain ⟨a, ys, rfl, hl, _⟩ := h
    rw [List.length_cons, hl]
    rfl
  · obtain ⟨a, ys, rfl, hl, ha, k⟩ := h
    obtain ⟨y, rfl⟩ := len1 hl
    refine ⟨_, (pss_one (ps_ost (pv 0) (pv 1))), ?_⟩
    refine ⟨_, rfl, _, rfl, a, T.C, rfl, T.m.T, T.nf _ (by simp), .inl ⟨ha, fun dx hdx hne => ?_⟩⟩
    refine k dx _ hdx hne upd_same (by rw [upd_ne hne, upd_same]; rfl) fun b o hb hbo => ?_
    rw [upd_ne hb, upd_ne (ne_of_none hbo hdx)]
    exact hbo
theorem bI_BadStep (T : Xc K mg "BadStep" "BadStep.__init__" sI_BadStep ["word"]) : Binds K T.fd ["self", "word"] [] := T.F.binds (ps := ["self", "word"]) fun _ _ _ _ _ _ us hl => match us, hl with | [_, _], _ => rfl
theorem kI_BadStep (T : Xc K mg "BadStep" "BadStep.__init__" sI_BadStep ["word"]) : KBn K T.fd ["self", "word"] 1 ["word"] (fun us ws => us ++ ws) (fun us ws => us ++ ws) := by
  obtain ⟨oc, od, kV, doc, pm, an, cdv, ct, osl, e, lk, hcd⟩ := T.F.ex
  rw [e]
  exact ⟨fun s us ws _ hl hw => match us, ws, hl, hw with | [_], [_], _, _ => .of_eq rfl, fun r1 r2 => r1.append r2⟩
abbrev sI_BadText : Stmt := inClass (topS 18) 0
theorem scI_BadText : FnScope ["self", "line", "word"] ["self", "line", "word"] (defScope sI_BadText) := ⟨rfl, rfl, rfl, by decide +kernel, rfl, by decide +kernel, by decide +kernel⟩
theorem okI_BadText (T : Xc K mg "BadText" "BadText.__init__" sI_BadText ["line", "word"]) : FnOk P w K mg base CX0 1 T.fI T.fd ["self", "line", "word"] (spInit T.C ["line", "word"]) := by
  refine T.F.ok scI_BadText (fun vs H Q E h => ?_) (fun cdv A outer s H vs Q E hr h => ?_)
  · obtain ⟨a, ys, rfl, hl, _⟩ := h
    rw [List.length_cons, hl]
    rfl
  · obtain ⟨a, ys, rfl, hl, ha, k⟩ := h
    obtain ⟨y, z, rfl⟩ := len2 hl
    refine ⟨_, (pss_cons (ps_ost (pv 0) (pv 1)) (pss_one (ps_ost (pv 0) (pv 2)))), ?_⟩
    refine ⟨_, rfl, _, rfl, a, T.C, rfl, T.m.T, T.nf _ (by simp), .inl ⟨ha, fun dx hdx hne => ?_⟩⟩
    refine ⟨_, rfl, _, rfl, a, T.C, rfl, T.m.T, T.nf _ (by simp), .inr ⟨dx, _, upd_same, (by rw [upd_ne hne, upd_same]), (by show 1 ≤ 900; decide), ?_⟩⟩
    refine k dx _ hdx hne (by rw [upd_ne (Ne.symm hne), upd_same]) upd_same fun b o hb hbo => ?_
    rw [upd_ne (ne_of_none hbo hdx), upd_ne hb, upd_ne (ne_of_none hbo hdx)]
    exact hbo
theorem bI_BadText (T : Xc K mg "BadText" "BadText.__init__" sI_BadText ["line", "word"]) : Binds K T.fd ["self", "line", "word"] [] := T.F.binds (ps := ["self", "line", "word"]) fun _ _ _ _ _ _ us hl => match us, hl with | [_, _, _], _ => rfl
theorem kI_BadText (T : Xc K mg "BadText" "BadText.__init__" sI_BadText ["line", "word"]) : KBn K T.fd ["self", "line", "word"] 1 ["word", "line"] (fun us ws => us ++ ws.reverse) (fun us ws => us ++ ws.reverse) := by
  obtain ⟨oc, od, kV, doc, pm, an, cdv, ct, osl, e, lk, hcd⟩ := T.F.ex
  rw [e]
  exact ⟨fun s us ws _ hl hw => match us, ws, hl, hw with | [_], [_, _], _, _ => .of_eq rfl, fun r1 r2 => r1.append (vals_rev r2)⟩
abbrev sI_BadCommand : Stmt := inClass (topS 19) 0
theorem scI_BadCommand : FnScope ["self", "line"] ["self", "line"] (defScope sI_BadCommand) := ⟨rfl, rfl, rfl, by decide +kernel, rfl, by decide +kernel, by decide +kernel⟩
theorem okI_BadCommand (T : Xc K mg "BadCommand" "BadCommand.__init__" sI_BadCommand ["line"]) : FnOk P w K mg base CX0 1 T.fI T.fd ["self", "line"] (spInit T.C ["line"]) := by
  refine T.F.ok scI_BadCommand (fun vs H Q E h => ?_) (fun cdv A outer s H vs Q E hr h => ?_)
  · obtain ⟨a, ys, rfl, hl, _⟩ := h
    rw [List.length_cons, hl]
    rfl
  · obtain ⟨a, ys, rfl, hl, ha, k⟩ := h
    obtain ⟨y, rfl⟩ := len1 hl
    refine ⟨_, (pss_one (ps_ost (pv 0) (pv 1))), ?_⟩
    refine ⟨_, rfl, _, rfl, a, T.C, rfl, T.m.T, T.nf _ (by simp), .inl ⟨ha, fun dx hdx hne => ?_⟩⟩
    refine k dx _ hdx hne upd_same (by rw [upd_ne hne, upd_same]; rfl) fun b o hb hbo => ?_
    rw [upd_ne hb, upd_ne (ne_of_none hbo hdx)]
    exact hbo
theorem bI_BadCommand (T : Xc K mg "BadCommand" "BadCommand.__init__" sI_BadCommand ["line"]) : Binds K T.fd ["self", "line"] [] := T.F.binds (ps := ["self", "line"]) fun _ _ _ _ _ _ us hl => match us, hl with | [_, _], _ => rfl
theorem kI_BadCommand (T : Xc K mg "BadCommand" "BadCommand.__init__" sI_BadCommand ["line"]) : KBn K T.fd ["self", "line"] 1 ["line"] (fun us ws => us ++ ws) (fun us ws => us ++ ws) := by
  obtain ⟨oc, od, kV, doc, pm, an, cdv, ct, osl, e, lk, hcd⟩ := T.F.ex
  rw [e]
  exact ⟨fun s us ws _ hl hw => match us, ws, hl, hw with | [_], [_], _, _ => .of_eq rfl, fun r1 r2 => r1.append r2⟩
abbrev sI_NoSuch : Stmt := inClass (topS 20) 0
theorem scI_NoSuch : FnScope ["self", "word", "name"] ["self", "word", "name"] (defScope sI_NoSuch) := ⟨rfl, rfl, rfl, by decide +kernel, rfl, by decide +kernel, by decide +kernel⟩
theorem okI_NoSuch (T : Xc K mg "NoSuch" "NoSuch.__init__" sI_NoSuch ["word", "name"]) : FnOk P w K mg base CX0 1 T.fI T.fd ["self", "word", "name"] (spInit T.C ["word", "name"]) := by
  refine T.F.ok scI_NoSuch (fun vs H Q E h => ?_) (fun cdv A outer s H vs Q E hr h => ?_)
  · obtain ⟨a, ys, rfl, hl, _⟩ := h
    rw [List.length_cons, hl]
    rfl
  · obtain ⟨a, ys, rfl, hl, ha, k⟩ := h
    obtain ⟨y, z, rfl⟩ := len2 hl
    refine ⟨_, (pss_cons (ps_ost (pv 0) (pv 1)) (pss_one (ps_ost (pv 0) (pv 2)))), ?_⟩
    refine ⟨_, rfl, _, rfl, a, T.C, rfl, T.m.T, T.nf _ (by simp), .inl ⟨ha, fun dx hdx hne => ?_⟩⟩
    refine ⟨_, rfl, _, rfl, a, T.C, rfl, T.m.T, T.nf _ (by simp), .inr ⟨dx, _, upd_same, (by rw [upd_ne hne, upd_same]), (by show 1 ≤ 900; decide), ?_⟩⟩
    refine k dx _ hdx hne (by rw [upd_ne (Ne.symm hne), upd_same]) upd_same fun b o hb hbo => ?_
    rw [upd_ne (ne_of_none hbo hdx), upd_ne hb, upd_ne (ne_of_none hbo hdx)]
    exact hbo
theorem bI_NoSuch (T : Xc K mg "NoSuch" "NoSuch.__init__" sI_NoSuch ["word", "name"]) : Binds K T.fd ["self", "word", "name"] [] := T.F.binds (ps := ["self", "word", "name"]) fun _ _ _ _ _ _ us hl => match us, hl with | [_, _, _], _ => rfl
theorem kI_NoSuch (T : Xc K mg "NoSuch" "NoSuch.__init__" sI_NoSuch ["word", "name"]) : KBn K T.fd ["self", "word", "name"] 1 ["name", "word"] (fun us ws => us ++ ws.reverse) (fun us ws => us ++ ws.reverse) := by
  obtain ⟨oc, od, kV, doc, pm, an, cdv, ct, osl, e, lk, hcd⟩ := T.F.ex
  rw [e]
  exact ⟨fun s us ws _ hl hw => match us, ws, hl, hw with | [_], [_, _], _, _ => .of_eq rfl, fun r1 r2 => r1.append (vals_rev r2)⟩
abbrev sI_Taken : Stmt := inClass (topS 21) 0
theorem scI_Taken : FnScope ["self", "name"] ["self", "name"] (defScope sI_Taken) := ⟨rfl, rfl, rfl, by decide +kernel, rfl, by decide +kernel, by decide +kernel⟩
theorem okI_Taken (T : Xc K mg "Taken" "Taken.__init__" sI_Taken ["name"]) : FnOk P w K mg base CX0 1 T.fI T.fd ["self", "name"] (spInit T.C ["name"]) := by
  refine T.F.ok scI_Taken (fun vs H Q E h => ?_) (fun cdv A outer s H vs Q E hr h => ?_)
  · obtain ⟨a, ys, rfl, hl, _⟩ := h
    rw [List.length_cons, hl]
    rfl
  · obtain ⟨a, ys, rfl, hl, ha, k⟩ := h
    obtain ⟨y, rfl⟩ := len1 hl
    refine ⟨_, (pss_one (ps_ost (pv 0) (pv 1))), ?_⟩
    refine ⟨_, rfl, _, rfl, a, T.C, rfl, T.m.T, T.nf _ (by simp), .inl ⟨ha, fun dx hdx hne => ?_⟩⟩
    refine k dx _ hdx hne upd_same (by rw [upd_ne hne, upd_same]; rfl) fun b o hb hbo => ?_
    rw [upd_ne hb, upd_ne (ne_of_none hbo hdx)]
    exact hbo
theorem bI_Taken (T : Xc K mg "Taken" "Taken.__init__" sI_Taken ["name"]) : Binds K T.fd ["self", "name"] [] := T.F.binds (ps := ["self", "name"]) fun _ _ _ _ _ _ us hl => match us, hl with | [_, _], _ => rfl
theorem kI_Taken (T : Xc K mg "Taken" "Taken.__init__" sI_Taken ["name"]) : KBn K T.fd ["self", "name"] 1 ["name"] (fun us ws => us ++ ws) (fun us ws => us ++ ws) := by
  obtain ⟨oc, od, kV, doc, pm, an, cdv, ct, osl, e, lk, hcd⟩ := T.F.ex
  rw [e]
  exact ⟨fun s us ws _ hl hw => match us, ws, hl, hw with | [_], [_], _, _ => .of_eq rfl, fun r1 r2 => r1.append r2⟩
abbrev sI_NoPlan : Stmt := inClass (topS 22) 0
theorem scI_NoPlan : FnScope ["self", "paper"] ["self", "paper"] (defScope sI_NoPlan) := ⟨rfl, rfl, rfl, by decide +kernel, rfl, by decide +kernel, by decide +kernel⟩
theorem okI_NoPlan (T : Xc K mg "NoPlan" "NoPlan.__init__" sI_NoPlan ["paper"]) : FnOk P w K mg base CX0 1 T.fI T.fd ["self", "paper"] (spInit T.C ["paper"]) := by
  refine T.F.ok scI_NoPlan (fun vs H Q E h => ?_) (fun cdv A outer s H vs Q E hr h => ?_)
  · obtain ⟨a, ys, rfl, hl, _⟩ := h
    rw [List.length_cons, hl]
    rfl
  · obtain ⟨a, ys, rfl, hl, ha, k⟩ := h
    obtain ⟨y, rfl⟩ := len1 hl
    refine ⟨_, (pss_one (ps_ost (pv 0) (pv 1))), ?_⟩
    refine ⟨_, rfl, _, rfl, a, T.C, rfl, T.m.T, T.nf _ (by simp), .inl ⟨ha, fun dx hdx hne => ?_⟩⟩
    refine k dx _ hdx hne upd_same (by rw [upd_ne hne, upd_same]; rfl) fun b o hb hbo => ?_
    rw [upd_ne hb, upd_ne (ne_of_none hbo hdx)]
    exact hbo
theorem bI_NoPlan (T : Xc K mg "NoPlan" "NoPlan.__init__" sI_NoPlan ["paper"]) : Binds K T.fd ["self", "paper"] [] := T.F.binds (ps := ["self", "paper"]) fun _ _ _ _ _ _ us hl => match us, hl with | [_, _], _ => rfl
theorem kI_NoPlan (T : Xc K mg "NoPlan" "NoPlan.__init__" sI_NoPlan ["paper"]) : KBn K T.fd ["self", "paper"] 1 ["paper"] (fun us ws => us ++ ws) (fun us ws => us ++ ws) := by
  obtain ⟨oc, od, kV, doc, pm, an, cdv, ct, osl, e, lk, hcd⟩ := T.F.ex
  rw [e]
  exact ⟨fun s us ws _ hl hw => match us, ws, hl, hw with | [_], [_], _, _ => .of_eq rfl, fun r1 r2 => r1.append r2⟩
end
end K98
set_option Elab.async false
set_option linter.all false
set_option maxRecDepth 100000
set_option maxHeartbeats 4000000
namespace K98
open PySem PySem.Spec PyProof.Rows L2 XcV Evl HB
abbrev s_law_made : Stmt := topS 26
theorem sc_law_made : FnScope ["number", "one", "other", "named"] ["number", "one", "other", "named"] (defScope s_law_made) := ⟨rfl, rfl, rfl, by decide +kernel, rfl, by decide +kernel, by decide +kernel⟩
abbrev s_law_is : Stmt := topS 27
theorem sc_law_is : FnScope ["number", "error"] ["number", "error"] (defScope s_law_is) := ⟨rfl, rfl, rfl, by decide +kernel, rfl, by decide +kernel, by decide +kernel⟩
abbrev s_law_fields : Stmt := topS 28
theorem sc_law_fields : FnScope ["number", "error"] ["number", "error"] (defScope s_law_fields) := ⟨rfl, rfl, rfl, by decide +kernel, rfl, by decide +kernel, by decide +kernel⟩
abbrev s_law_family : Stmt := topS 29
theorem sc_law_family : FnScope ["number"] ["number"] (defScope s_law_family) := ⟨rfl, rfl, rfl, by decide +kernel, rfl, by decide +kernel, by decide +kernel⟩
abbrev s_law_two : Stmt := topS 30
theorem sc_law_two : FnScope ["number"] ["number"] (defScope s_law_two) := ⟨rfl, rfl, rfl, by decide +kernel, rfl, by decide +kernel, by decide +kernel⟩
abbrev s_law_thing : Stmt := topS 31
theorem sc_law_thing : FnScope ["pool", "depth", "kind", "row", "lap"] ["pool", "depth"] (defScope s_law_thing) := ⟨rfl, rfl, rfl, by decide +kernel, rfl, by decide +kernel, by decide +kernel⟩
abbrev s_law_raise : Stmt := topS 32
theorem sc_law_raise : FnScope ["number", "one", "other"] ["number", "one", "other"] (defScope s_law_raise) := ⟨rfl, rfl, rfl, by decide +kernel, rfl, by decide +kernel, by decide +kernel⟩
abbrev s_law_caught : Stmt := topS 33
theorem sc_law_caught : FnScope ["number", "one", "other", "e"] ["number", "one", "other"] (defScope s_law_caught) := ⟨rfl, rfl, rfl, by decide +kernel, rfl, by decide +kernel, by decide +kernel⟩
abbrev s_law_holds : Stmt := topS 34
theorem sc_law_holds : FnScope ["pool", "number", "named", "one", "other", "error", "due", "families", "first", "second", "family", "kind"] ["pool", "number"] (defScope s_law_holds) := ⟨rfl, rfl, rfl, by decide +kernel, rfl, by decide +kernel, by decide +kernel⟩
abbrev slaw : Stmt := topS 35
theorem sclaw : FnScope ["script", "pool", "number", "cell"] ["script"] (defScope slaw) := ⟨rfl, rfl, rfl, by decide +kernel, rfl, by decide +kernel, by decide +kernel⟩
structure Cg (mg : Str → Option Value) (x : Str) where
  C : Addr
  g : mg x = some (.ref C)
structure Txt (K : PySem.W.Frag) (mg : Str → Option Value) extends Tz mg where
  x_BadName : Xc K mg "BadName" "BadName.__init__" sI_BadName ["at"]
  x_BadHands : Xc K mg "BadHands" "BadHands.__init__" sI_BadHands ["at", "word"]
  x_BadCalendar : Xc K mg "BadCalendar" "BadCalendar.__init__" sI_BadCalendar ["at", "word"]
  x_BadSheet : Xc K mg "BadSheet" "BadSheet.__init__" sI_BadSheet ["at", "word"]
  x_BadPlan : Xc K mg "BadPlan" "BadPlan.__init__" sI_BadPlan ["at", "word"]
  x_BadLadders : Xc K mg "BadLadders" "BadLadders.__init__" sI_BadLadders ["at", "word"]
  x_BadHouse : Xc K mg "BadHouse" "BadHouse.__init__" sI_BadHouse ["at", "word"]
  x_BadBare : Xc K mg "BadBare" "BadBare.__init__" sI_BadBare ["at", "word"]
  x_BadJobs : Xc K mg "BadJobs" "BadJobs.__init__" sI_BadJobs ["at", "word"]
  x_BadJournal : Xc K mg "BadJournal" "BadJournal.__init__" sI_BadJournal ["at", "word"]
  x_BadClaim : Xc K mg "BadClaim" "BadClaim.__init__" sI_BadClaim ["word"]
  x_BadStep : Xc K mg "BadStep" "BadStep.__init__" sI_BadStep ["word"]
  x_BadText : Xc K mg "BadText" "BadText.__init__" sI_BadText ["line", "word"]
  x_BadCommand : Xc K mg "BadCommand" "BadCommand.__init__" sI_BadCommand ["line"]
  x_NoSuch : Xc K mg "NoSuch" "NoSuch.__init__" sI_NoSuch ["word", "name"]
  x_Taken : Xc K mg "Taken" "Taken.__init__" sI_Taken ["name"]
  x_NoPlan : Xc K mg "NoPlan" "NoPlan.__init__" sI_NoPlan ["paper"]
  x_PlanError : Cg mg "PlanError"
  x_DataError : Cg mg "DataError"
  x_CallError : Cg mg "CallError"
  x_TextError : Cg mg "TextError"
  x_DeskError : Cg mg "DeskError"
  d_law_take : Fd K mg "_law_take" s_law_take ["pool", "many"]
  d_law_same : Fd K mg "_law_same" s_law_same ["told", "due"]
  d_law_made : Fd K mg "_law_made" s_law_made ["number", "one", "other", "named"]
  d_law_is : Fd K mg "_law_is" s_law_is ["number", "error"]
  d_law_fields : Fd K mg "_law_fields" s_law_fields ["number", "error"]
  d_law_family : Fd K mg "_law_family" s_law_family ["number"]
  d_law_two : Fd K mg "_law_two" s_law_two ["number"]
  d_law_thing : Fd K mg "_law_thing" s_law_thing ["pool", "depth"]
  d_law_raise : Fd K mg "_law_raise" s_law_raise ["number", "one", "other"]
  d_law_caught : Fd K mg "_law_caught" s_law_caught ["number", "one", "other"]
  d_law_holds : Fd K mg "_law_holds" s_law_holds ["pool", "number"]
section
variable {P : Program} {w : World} {K : PySem.W.Frag} {mg : Str → Option Value} {base : Heap}
/-! ### _law_family, _law_two -/
def famOf (n : Nat) : Nat := if n < 11 then 0 else if n < 12 then 1 else if n < 14 then 2 else 3
def spFam : Sp := fun vs H Q _ => ∃ n : Nat, vs = [.int n] ∧ Q (.int (famOf n : Nat)) H
theorem ok_family (T : Txt K mg) : FnOk P w K mg base CX0 1 T.d_law_family.f T.d_law_family.fd ["number"] spFam := by
  refine T.d_law_family.F.ok sc_law_family (fun vs H Q E h => ?_) (fun cdv A outer s H vs Q E hr h => ?_)
  · obtain ⟨n, rfl, _⟩ := h
    rfl
  · obtain ⟨n, rfl, k⟩ := h
    refine ⟨_, (pss_one (ps_ret (pe_ifExp (pt_cmpR op_lt (pv 0) pe_int (nomark _)) pe_int (pe_ifExp (pt_cmpR op_lt (pv 0) pe_int (nomark _)) pe_int (pe_ifExp (pt_cmpR op_lt (pv 0) pe_int (nomark _)) pe_int pe_int))))), ?_⟩
    unfold famOf at k
    refine ⟨_, rfl, _, _, rfl, rfl, _, rfl, ite2 (fun c => ?_) (fun c => ?_)⟩
    · have c' := of_decide_eq_true c
      rw [if_pos (by omega)] at k
      exact k
    have c' := of_decide_eq_false (Bool.eq_false_iff.mpr c)
    refine ⟨_, rfl, _, _, rfl, rfl, _, rfl, ite2 (fun d => ?_) (fun d => ?_)⟩
    · have d' := of_decide_eq_true d
      rw [if_neg (by omega), if_pos (by omega)] at k
      exact k
    have d' := of_decide_eq_false (Bool.eq_false_iff.mpr d)
    refine ⟨_, rfl, _, _, rfl, rfl, _, rfl, ite2 (fun e => ?_) (fun e => ?_)⟩
    · have e' := of_decide_eq_true e
      rw [if_neg (by omega), if_neg (by omega), if_pos (by omega)] at k
      exact k
    · have e' := of_decide_eq_false (Bool.eq_false_iff.mpr e)
      rw [if_neg (by omega), if_neg (by omega), if_neg (by omega)] at k
      exact k
/-- two fields? -/
def twoOf (n : Nat) : Bool := !inV (.int n) [.int 0, .int 10, .int 11, .int 13, .int 15, .int 16]
def spTwo : Sp := fun vs H Q _ => ∃ n : Nat, vs = [.int n] ∧ ∀ H', Ex H H' → Q (.bl (twoOf n)) H'
theorem ok_two (T : Txt K mg) : FnOk P w K mg base CX0 1 T.d_law_two.f T.d_law_two.fd ["number"] spTwo := by
  refine T.d_law_two.F.ok sc_law_two (fun vs H Q E h => ?_) (fun cdv A outer s H vs Q E hr h => ?_)
  · obtain ⟨n, rfl, _⟩ := h
    rfl
  · obtain ⟨n, rfl, k⟩ := h
    refine ⟨_, (pss_one (ps_ret (pe_cmpR op_notIn_seq (pv 0) (pe_tup (pa_cons pe_int (pa_cons pe_int (pa_cons pe_int (pa_cons pe_int (pa_cons pe_int (pa_cons pe_int pa_nil))))))) (by with_unfolding_all rfl)))), ?_⟩
    exact ⟨_, rfl, (by show 6 ≤ sizeLine; decide), fun p hp => ⟨p, _, rfl, .inr (SqT.of upd_same), rfl, rfl, k _ (Ex.new hp)⟩⟩
/-! ### _law_thing -/
def cost : Nat → Int
  | 0 => 3
  | n + 1 => 3 + 3 * cost n
def szOf : Nat → Nat
  | 0 => 1
  | n + 1 => 1 + 3 * szOf n
theorem cost_pos : ∀ n, 3 ≤ cost n
  | 0 => by show (3 : Int) ≤ 3; omega
  | n + 1 => by
    have := cost_pos n
    show (3 : Int) ≤ 3 + 3 * cost n
    omega
theorem sz_pos : ∀ n, 1 ≤ szOf n
  | 0 => Nat.le_refl _
  | n + 1 => by show 1 ≤ 1 + _; omega
/-- what is new in H' -/
def fr (H H' : Hp) : Hp := fun b => match H b with
  | none => H' b
  | some _ => none
theorem fr_some {H H' : Hp} {b : Addr} {o : HO} (h : fr H H' b = some o) : H b = none ∧ H' b = some o := by
  unfold fr at h
  split at h
  · exact ⟨by assumption, h⟩
  · cases h
theorem fr_of {H H' : Hp} {b : Addr} {o : HO} (h : H b = none) (h' : H' b = some o) : fr H H' b = some o := by
  unfold fr
  rw [h]
  exact h'
theorem hid_fresh {S : List Addr} {H H' : Hp} {b : Addr} (x : Ex (hid S H) (hid S H')) (n : b ∉ S) (h : H' b = none) : H b = none := by
  have e := fresh_back x (p := b) (by rw [hid_out n]; exact h)
  rw [hid_out n] at e
  exact e
theorem PoolAt.mut {H : Hp} {p c t : Addr} {ns : List Int} {k : Int} {o : HO} (h : PoolAt H p c ns k) (ht : t ∉ [p, c]) : PoolAt (upd H t o) p c ns k :=
  ⟨by rw [upd_ne (fun z => ht (by simp [z]))]; exact h.hp, by rw [upd_ne (fun z => ht (by simp [z]))]; exact h.hc, h.ne, h.k0⟩
theorem ex_mut {S : List Addr} {H H' : Hp} {t : Addr} {o : HO} (x : Ex (hid S H) (hid S H')) (h : H t = none) : Ex (hid S H) (hid S (upd H' t o)) := fun b u e => by
  have e1 := x b u e
  obtain ⟨nb, e2⟩ := hid_some e
  rw [hid_out nb] at e1 ⊢
  rw [upd_ne (ne_of_none e2 h)]
  exact e1
/-- by fuel: a thing of the depth n -/
def spThing : Nat → Sp
  | 0 => fun _ _ _ _ => False
  | n + 1 => fun vs H Q _ => ∃ (p c : Addr) (ns : List Int) (k : Int), vs = [.ref p, .int n] ∧ PoolAt H p c ns k ∧ k + cost n ≤ 100000000000 ∧
    ∀ (v : V) (d : D) (ns' : List Int) (k' : Int) (H' : Hp), Rep (fr H H') v d → d.size ≤ szOf n → PoolAt H' p c ns' k' → k' ≤ k + cost n → Ex (hid [p, c] H) (hid [p, c] H') → Q v H'
theorem PoolAt.new {H : Hp} {p c t : Addr} {ns : List Int} {k : Int} {o : HO} (h : PoolAt H p c ns k) (ht : H t = none) : PoolAt (upd H t o) p c ns k :=
  ⟨by rw [upd_ne (ne_of_none h.hp ht)]; exact h.hp, by rw [upd_ne (ne_of_none h.hc ht)]; exact h.hc, h.ne, h.k0⟩
theorem iteX {α : Type} {c : Bool} {f : α → Prop} {a b : α} (h : f (if c = true then a else b)) : if c = true then f a else f b := by
  cases c
  · exact h
  · exact h
theorem yes_if {σ : L2.St} {H : Hp} {A B : Hp → Prop} (h : A H) : tYes σ H (fun b H3 => if b = true then A H3 else B H3) := by
  show (if true = true then A H else B H)
  rw [if_pos rfl]
  exact h
theorem keep_hid {S : List Addr} {H H' : Hp} {b : Addr} (h : hid S H' = hid S H) (n : b ∉ S) : H' b = H b := by
  have e := congrFun h b
  rw [hid_out n, hid_out n] at e
  exact e
theorem PoolAt.out {H : Hp} {p c t : Addr} {ns : List Int} {k : Int} (h : PoolAt H p c ns k) (ht : H t = none) : t ∉ [p, c] := fun m => by
  rcases List.mem_cons.mp m with e | m
  · rw [e, h.hp] at ht
    cases ht
  · rw [List.mem_singleton.mp m, h.hc] at ht
    cases ht
theorem pick0 (H : Hp) : ∀ j : Nat, j < 7 → ∃ (v : V) (d : D), [V.non, .bl true, .bl false, .int (-1), .int 0, .int 1, .int 1000][j]? = some v ∧ Rep H v d ∧ d.size = 1
  | 0, _ => ⟨_, _, rfl, .non, rfl⟩
  | 1, _ => ⟨_, _, rfl, .bl _, rfl⟩
  | 2, _ => ⟨_, _, rfl, .bl _, rfl⟩
  | 3, _ => ⟨_, _, rfl, .int _, rfl⟩
  | 4, _ => ⟨_, _, rfl, .int _, rfl⟩
  | 5, _ => ⟨_, _, rfl, .int _, rfl⟩
  | 6, _ => ⟨_, _, rfl, .int _, rfl⟩
theorem pick1 : ∀ j : Nat, j < 7 → ∃ z : Str, [V.str "", .str "work", .str "tie", .str "a b", .str "\n", .str "Z9", .str (strMul "line" 9)][j]? = some (.str z) ∧ z.length ≤ 1000000
  | 0, _ => ⟨_, rfl, by decide⟩
  | 1, _ => ⟨_, rfl, by decide⟩
  | 2, _ => ⟨_, rfl, by decide⟩
  | 3, _ => ⟨_, rfl, by decide⟩
  | 4, _ => ⟨_, rfl, by decide⟩
  | 5, _ => ⟨_, rfl, by decide⟩
  | 6, _ => ⟨_, rfl, strMul_len (by decide) (by decide) (by decide)⟩
theorem thing0 {f : Addr} {fd : FuncData} : FnOk P w K mg base CX0 1 f fd ["pool", "depth"] (spThing 0) := ⟨fun _ _ _ _ h => h.elim, fun _ _ _ _ _ _ _ _ _ _ _ _ _ h => h.elim⟩
theorem ok_thing_step (T : Txt K mg) (G_law_take : FnOk P w K mg base CX0 1 T.d_law_take.f T.d_law_take.fd ["pool", "many"] spTake) (n : Nat)
    (G_law_thing : FnOk P w K mg base CX0 (n + 1) T.d_law_thing.f T.d_law_thing.fd ["pool", "depth"] (spThing n)) : FnOk P w K mg base CX0 (n + 2) T.d_law_thing.f T.d_law_thing.fd ["pool", "depth"] (spThing (n + 1)) := by
  refine T.d_law_thing.F.ok sc_law_thing (fun vs H Q E h => ?_) (fun cdv A outer s H vs Q E hr h => ?_)
  · obtain ⟨p, c, ns, k, rfl, _⟩ := h
    rfl
  · obtain ⟨p, c, ns, k, rfl, hP, hk, kk⟩ := h
    have hr1 : Room 1 _ := hr.mono (by omega)
    have cn := cost_pos n
    have k0 := hP.k0
    refine ⟨_, (pss_cons (ps_set (i := 2) sc_law_thing.nd rfl (Or.inl rfl) (pe_call G_law_take (hr.mono (by first | decide | omega)) rfl T.d_law_take.g T.d_law_take.k T.d_law_take.b .nil pass0 (pa_cons (pv 0) (pa_cons (pe_ifExp (pt_cmpR op_gt (pv 1) pe_int (nomark _)) pe_int pe_int) pa_nil))))
  (pss_cons (ps_if (pt_cmpR op_eq (pv 2) pe_int (nomark _)) (pss_one (ps_ret (pe_ix ix_tup (pe_tup (pa_cons pe_non (pa_cons pe_bl (pa_cons pe_bl (pa_cons (pe_un un_neg pe_int) (pa_cons pe_int (pa_cons pe_int (pa_cons pe_int pa_nil)))))))) (pe_call G_law_take (hr.mono (by first | decide | omega)) rfl T.d_law_take.g T.d_law_take.k T.d_law_take.b .nil pass0 (pa_cons (pv 0) (pa_cons pe_int pa_nil))) (fun _ _ => rfl))))
  pss_nil)
  (pss_cons (ps_if (pt_cmpR op_lt (pv 2) pe_int (nomark _)) (pss_one (ps_ret (pe_op op_sub (pe_call G_law_take (hr.mono (by first | decide | omega)) rfl T.d_law_take.g T.d_law_take.k T.d_law_take.b .nil pass0 (pa_cons (pv 0) (pa_cons pe_int pa_nil))) pe_int)))
  pss_nil)
  (pss_cons (ps_if (pt_cmpR op_eq (pv 2) pe_int (nomark _)) (pss_one (ps_ret (pe_op op_add (pe_op op_pow pe_int pe_int) (pe_call G_law_take (hr.mono (by first | decide | omega)) rfl T.d_law_take.g T.d_law_take.k T.d_law_take.b .nil pass0 (pa_cons (pv 0) (pa_cons pe_int pa_nil))))))
  pss_nil)
  (pss_cons (ps_if (pt_cmpR op_lt (pv 2) pe_int (nomark _)) (pss_one (ps_ret (pe_op op_add_str (pe_ix ix_tup (pe_tup (pa_cons pe_str (pa_cons pe_str (pa_cons pe_str (pa_cons pe_str (pa_cons pe_str (pa_cons pe_str (pa_cons (pe_op op_mul_str pe_str pe_int) pa_nil)))))))) (pe_call G_law_take (hr.mono (by first | decide | omega)) rfl T.d_law_take.g T.d_law_take.k T.d_law_take.b .nil pass0 (pa_cons (pv 0) (pa_cons pe_int pa_nil))) (fun _ _ => rfl)) (pe_op op_mul_str pe_str (pe_call G_law_take (hr.mono (by first | decide | omega)) rfl T.d_law_take.g T.d_law_take.k T.d_law_take.b .nil pass0 (pa_cons (pv 0) (pa_cons pe_int pa_nil)))))))
  pss_nil)
  (pss_cons (ps_setLc (own := [("lap", 4)]) (i := 3) rfl sc_law_thing.nd rfl rfl (sw_true rfl rfl rfl (by decide +kernel)) (pi_range1 (by rfl) T.z_range (pa_cons (pe_call G_law_take (hr.mono (by first | decide | omega)) rfl T.d_law_take.g T.d_law_take.k T.d_law_take.b .nil pass0 (pa_cons (pv 0) (pa_cons pe_int pa_nil))) pa_nil)) (blkOk_by (N := ["pool", "depth", "kind", "row", "lap"]) (sc := defScope s_law_thing) (by decide +kernel)) (fun _ _ _ _ _ => (pg_name (i := 4) sc_law_thing.nd rfl (Or.inl rfl))) (fun _ _ _ _ _ => pts_nil) (fun _ _ _ _ _ => (pe_call G_law_thing (hr.mono (by first | decide | omega)) rfl T.d_law_thing.g T.d_law_thing.k T.d_law_thing.b .nil pass0 (pa_cons (pv 0) (pa_cons (pe_op op_sub (pv 1) pe_int) pa_nil)))))
  (pss_one (ps_ret (pe_ifExp (pt_cmpR op_eq (pv 2) pe_int (nomark _)) (pe_callTy call_tuple_of (by rfl) T.z_tuple bt_tuple (pa_cons (pv 3) pa_nil)) (pv 3)))))))))), ?_⟩
    -- kind = _law_take(pool, 9 if depth > 0 else 7)
    refine ⟨_, rfl, _, rfl, _, _, rfl, rfl, _, rfl, iteX (f := fun v => tC v _ _ _) ?_⟩
    refine ⟨p, c, ns, k, if decide ((0 : Int) < (n : Int)) = true then 9 else 7, ?_, hP, by omega, ?_, ?_, fun r ns1 H1 r0 r1 hP1 h1 => ?_⟩
    · split <;> rfl
    · split <;> decide
    · split <;> decide
    have x1 : Ex (hid [p, c] H) (hid [p, c] H1) := by
      rw [h1]
      exact Ex.refl _
    -- if kind == 0
    refine ⟨_, rfl, rfl, _, rfl, ite2 (fun _ => ?_) (fun _ => ?_)⟩
    · refine ⟨1, rfl, (by show 7 ≤ sizeLine; decide), fun t ht => ?_⟩
      refine ⟨_, rfl, p, c, ns1, k + 1, 7, rfl, hP1.new ht, by omega, by decide, by decide, fun r2 ns2 H2 r20 r21 hP2 h2 => ?_⟩
      have ht2 := keep_hid h2 (hP1.out ht)
      rw [upd_same] at ht2
      obtain ⟨j, rfl⟩ : ∃ j : Nat, r2 = (j : Int) := ⟨r2.toNat, by omega⟩
      obtain ⟨v, d, gv, rv, sv⟩ := pick0 (fr H H2) j (by omega)
      refine ⟨t, _, j, v, rfl, rfl, SqT.of ht2, atI_nat gv, ?_⟩
      refine kk v d ns2 (k + 1 + 1) H2 rv (by rw [sv]; exact sz_pos n) hP2 (by omega) ?_
      rw [h2]
      exact x1.trans (HB.Ex.hid (Ex.new ht))
    -- if kind < 3
    refine ⟨_, rfl, _, _, rfl, rfl, _, rfl, ite2 (fun _ => ?_) (fun _ => ?_)⟩
    · refine ⟨_, rfl, p, c, ns1, k + 1, 10007, rfl, hP1, by omega, by decide, by decide, fun r2 ns2 H2 r20 r21 hP2 h2 => ?_⟩
      refine ⟨_, _, rfl, rfl, ?_⟩
      refine kk _ _ ns2 (k + 1 + 1) H2 (.int _) (sz_pos n) hP2 (by omega) ?_
      rw [h2]
      exact x1
    -- if kind == 3
    refine ⟨_, rfl, rfl, _, rfl, ite2 (fun _ => ?_) (fun _ => ?_)⟩
    · refine ⟨10, 59, rfl, rfl, ⟨by decide, by decide, by decide⟩, ?_⟩
      refine ⟨_, rfl, p, c, ns1, k + 1, 10007, rfl, hP1, by omega, by decide, by decide, fun r2 ns2 H2 r20 r21 hP2 h2 => ?_⟩
      refine ⟨_, _, rfl, rfl, ?_⟩
      refine kk _ _ ns2 (k + 1 + 1) H2 (.int _) (sz_pos n) hP2 (by omega) ?_
      rw [h2]
      exact x1
    -- if kind < 7
    refine ⟨_, rfl, _, _, rfl, rfl, _, rfl, ite2 (fun _ => ?_) (fun c7 => ?_)⟩
    · refine ⟨_, _, rfl, rfl, (by decide), (by decide), (by decide), (by show 7 ≤ sizeLine; decide), fun t ht => ?_⟩
      refine ⟨_, rfl, p, c, ns1, k + 1, 7, rfl, hP1.new ht, by omega, by decide, by decide, fun r2 ns2 H2 r20 r21 hP2 h2 => ?_⟩
      have ht2 := keep_hid h2 (hP1.out ht)
      rw [upd_same] at ht2
      obtain ⟨j, rfl⟩ : ∃ j : Nat, r2 = (j : Int) := ⟨r2.toNat, by omega⟩
      obtain ⟨z, gz, lz⟩ := pick1 j (by omega)
      refine ⟨t, _, j, .str z, rfl, rfl, SqT.of ht2, atI_nat gz, ?_⟩
      refine ⟨_, rfl, p, c, ns2, k + 1 + 1, 3, rfl, hP2, by omega, by decide, by decide, fun r3 ns3 H3 r30 r31 hP3 h3 => ?_⟩
      have lx : (strMul "x" r3).length ≤ 1000000 := strMul_len r30 (by omega) (by decide)
      refine ⟨_, _, rfl, rfl, r30, (by omega), (by decide), _, _, rfl, rfl, (by rw [sizeLine_eq]; omega), ?_⟩
      refine kk _ _ ns3 (k + 1 + 1 + 1) H3 (.str _) (sz_pos n) hP3 (by omega) ?_
      rw [h3, h2]
      exact x1.trans (HB.Ex.hid (Ex.new ht))
    -- row = [_law_thing(pool, depth - 1) for lap in range(_law_take(pool, 4))]
    have c7' : ¬ r < 7 := of_decide_eq_false (Bool.eq_false_iff.mpr c7)
    cases n with
    | zero =>
      have a : r < 7 := r1
      omega
    | succ n =>
    have cst : cost (n + 1) = 3 + 3 * cost n := rfl
    have cn2 := cost_pos n
    refine ⟨_, rfl, p, c, ns1, k + 1, 4, rfl, hP1, by omega, by decide, by decide, fun r2 ns2 H2 r20 r21 hP2 h2 => ?_⟩
    refine ⟨r2, rfl, (by omega), (by omega), fun L hL => ?_⟩
    have nL := hP2.out hL
    have x2 : Ex (hid [p, c] H) (hid [p, c] H2) := by
      rw [h2]
      exact x1
    have hL0 : H L = none := hid_fresh x2 nL hL
    refine lc_range (lo := 0) (n := r2.toNat) (fun i H' => ∃ (vs : List V) (ds : List D) (ns' : List Int) (k' : Int), H' L = some (.lst vs) ∧ vs.length = i ∧ ds.length = i ∧
      (∀ (j : Nat) (v : V) (d : D), vs[j]? = some v → ds[j]? = some d → Rep (hid [L] (fr H H')) v d) ∧ sizeL ds ≤ i * szOf n ∧ PoolAt H' p c ns' k' ∧ k' ≤ k + 2 + i * cost n ∧ Ex (hid [p, c] H) (hid [p, c] H')) ?_ ?_ ?_
    · refine ⟨[], [], ns2, k + 1 + 1, upd_same, rfl, rfl, fun j v d e => by simp at e, by simp [sizeL], hP2.new hL, by omega, x2.trans (HB.Ex.hid (Ex.new hL))⟩
    · rintro i H' hi ⟨vs, ds, ns', k', hl, l1, l2, hr', hs, hP', hk', hx⟩
      have hi4 : i < 4 := by omega
      have ci : (i : Int) * cost n + cost n = ((i + 1 : Nat) : Int) * cost n := by
        rw [show ((i + 1 : Nat) : Int) = (i : Int) + 1 from by omega, Int.add_mul, Int.one_mul]
      have ci3 : ((i + 1 : Nat) : Int) * cost n ≤ 3 * cost n := Int.mul_le_mul_of_nonneg_right (by omega) (by omega)
      refine ⟨rfl, ?_⟩
      refine yes_if ?_
      refine ⟨_, rfl, _, rfl, _, _, rfl, rfl, ?_⟩
      refine ⟨p, c, ns', k', ?_, hP', by omega, fun v d ns3 k3 H3 rv sv hP3 hk3 hx3 => ?_⟩
      · show [V.ref p, V.int (((n + 1 : Nat) : Int) - 1)] = _
        rw [show (((n + 1 : Nat) : Int) - 1) = (n : Int) from by omega]
      have hl3 : H3 L = some (.lst vs) := (hid_some (hx3 L _ (by rw [hid_out nL]; exact hl))).2
      have eL : hid [L] (fr H (upd H3 L (.lst (vs ++ [v])))) = hid [L] (fr H H3) := by
        funext b
        by_cases hb : b = L
        · rw [hb, hid_in (by simp), hid_in (by simp)]
        · rw [hid_out (by simpa using hb), hid_out (by simpa using hb)]
          unfold fr
          rw [upd_ne hb]
      have old : Ex (hid [L] (fr H H')) (hid [L] (fr H H3)) := fun b o e => by
        obtain ⟨nb, e1⟩ := hid_some e
        obtain ⟨e2, e3⟩ := fr_some e1
        rw [hid_out nb]
        refine fr_of e2 (hid_some (hx3 b o ?_)).2
        rw [hid_out (hP.out e2)]
        exact e3
      have new : Ex (fr H' H3) (hid [L] (fr H H3)) := fun b o e => by
        obtain ⟨e2, e3⟩ := fr_some e
        have nb : b ≠ L := fun z => by
          rw [z, hl] at e2
          cases e2
        rw [hid_out (by simpa using nb)]
        exact fr_of (hid_fresh hx (hP'.out e2) e2) e3
      refine ⟨vs, hl3, (by rw [sizeLine_eq]; omega), vs ++ [v], ds ++ [d], ns3, k3, upd_same, by simp [l1], by simp [l2], fun j v' d' g1 g2 => ?_, ?_, hP3.mut nL, by omega, ?_⟩
      · rw [eL]
        by_cases hj : j < i
        · rw [List.getElem?_append_left (by omega)] at g1 g2
          exact (hr' j v' d' g1 g2).mono old
        · have hj2 : j = i := by
            have := (List.getElem?_eq_some_iff.mp g1).1
            simp [l1] at this
            omega
          subst hj2
          rw [List.getElem?_append_right (by omega), l1] at g1
          rw [List.getElem?_append_right (by omega), l2] at g2
          simp at g1 g2
          subst g1 g2
          exact rv.mono new
      · rw [sizeL_app]
        have : (i + 1) * szOf n = i * szOf n + szOf n := Nat.succ_mul i _
        simp only [sizeL]
        omega
      · exact ex_mut (hx.trans hx3) hL0
    · rintro H' ⟨vs, ds, ns', k', hl, l1, l2, hr', hs, hP', hk', hx⟩
      have hcs : (r2.toNat : Int) * cost n ≤ 3 * cost n := Int.mul_le_mul_of_nonneg_right (by omega) (by omega)
      have hss : r2.toNat * szOf n ≤ 3 * szOf n := Nat.mul_le_mul_right _ (by omega)
      have sz1 : szOf (n + 1) = 1 + 3 * szOf n := rfl
      -- return tuple(row) if kind == 7 else row
      refine ⟨_, rfl, rfl, _, rfl, ite2 (fun _ => ?_) (fun _ => ?_)⟩
      · refine ⟨_, rfl, L, vs, rfl, .inl ⟨SqL.of hl, fun q hq => ?_⟩⟩
        refine kk (.ref q) (.tup ds) ns' k' _ (.tup (fr_of (hid_fresh hx (hP'.out hq) hq) upd_same) (by omega) fun j v d g1 g2 => (hr' j v d g1 g2).mono fun b o e => ?_) (by simp only [D.size]; omega) (hP'.new hq) (by omega) (hx.trans (HB.Ex.hid (Ex.new hq)))
        obtain ⟨nb, e1⟩ := hid_some e
        obtain ⟨e2, e3⟩ := fr_some e1
        refine fr_of e2 ?_
        show upd H' q _ b = _
        rw [upd_ne (ne_of_none e3 hq)]
        exact e3
      · refine ⟨_, rfl, kk (.ref L) (.lst ds) ns' k' _ (.lst (fr_of hL0 hl) (by omega) fun j v d g1 g2 => (hr' j v d g1 g2).mono (hid_ex _ _)) (by simp only [D.size]; omega) hP' (by omega) hx⟩
end
end K98
set_option Elab.async false
set_option linter.all false
set_option maxRecDepth 100000
set_option maxHeartbeats 8000000
namespace K98
open PySem PySem.Spec PyProof.Rows L2 XcV Evl HB
section
variable {P : Program} {w : World} {K : PySem.W.Frag} {mg : Str → Option Value} {base : Heap}
/-! ### the classes by number -/
def Txt.C (T : Txt K mg) : Nat → Addr
  | 0 => T.x_BadName.C
  | 1 => T.x_BadHands.C
  | 2 => T.x_BadCalendar.C
  | 3 => T.x_BadSheet.C
  | 4 => T.x_BadPlan.C
  | 5 => T.x_BadLadders.C
  | 6 => T.x_BadHouse.C
  | 7 => T.x_BadBare.C
  | 8 => T.x_BadJobs.C
  | 9 => T.x_BadJournal.C
  | 10 => T.x_BadClaim.C
  | 11 => T.x_BadStep.C
  | 12 => T.x_BadText.C
  | 13 => T.x_BadCommand.C
  | 14 => T.x_NoSuch.C
  | 15 => T.x_Taken.C
  | 16 => T.x_NoPlan.C
  | _ => 0
def Txt.fam (T : Txt K mg) : Nat → Addr
  | 0 => T.x_DataError.C
  | 1 => T.x_CallError.C
  | 2 => T.x_TextError.C
  | _ => T.x_DeskError.C
/-- the fields of an error of this number, the last one first -/
def flds (x y : V) : Nat → List (Str × V)
  | 0 => [("at", x)]
  | 1 => [("word", y), ("at", x)]
  | 2 => [("word", y), ("at", x)]
  | 3 => [("word", y), ("at", x)]
  | 4 => [("word", y), ("at", x)]
  | 5 => [("word", y), ("at", x)]
  | 6 => [("word", y), ("at", x)]
  | 7 => [("word", y), ("at", x)]
  | 8 => [("word", y), ("at", x)]
  | 9 => [("word", y), ("at", x)]
  | 10 => [("word", x)]
  | 11 => [("word", x)]
  | 12 => [("word", y), ("line", x)]
  | 13 => [("line", x)]
  | 14 => [("name", y), ("word", x)]
  | 15 => [("name", x)]
  | 16 => [("paper", x)]
  | _ => []
def ysOf (x y : V) (n : Nat) : List V := if twoOf n = true then [x, y] else [x]
theorem Txt.ec (T : Txt K mg) : ∀ n, n < 17 → ExcC K (T.C n)
  | 0, _ => T.x_BadName.ec
  | 1, _ => T.x_BadHands.ec
  | 2, _ => T.x_BadCalendar.ec
  | 3, _ => T.x_BadSheet.ec
  | 4, _ => T.x_BadPlan.ec
  | 5, _ => T.x_BadLadders.ec
  | 6, _ => T.x_BadHouse.ec
  | 7, _ => T.x_BadBare.ec
  | 8, _ => T.x_BadJobs.ec
  | 9, _ => T.x_BadJournal.ec
  | 10, _ => T.x_BadClaim.ec
  | 11, _ => T.x_BadStep.ec
  | 12, _ => T.x_BadText.ec
  | 13, _ => T.x_BadCommand.ec
  | 14, _ => T.x_NoSuch.ec
  | 15, _ => T.x_Taken.ec
  | 16, _ => T.x_NoPlan.ec
  | n + 17, h => absurd h (by omega)
theorem Txt.xf (T : Txt K mg) : ∀ n, n < 17 → XfC K (T.C n)
  | 0, _ => T.x_BadName.xf
  | 1, _ => T.x_BadHands.xf
  | 2, _ => T.x_BadCalendar.xf
  | 3, _ => T.x_BadSheet.xf
  | 4, _ => T.x_BadPlan.xf
  | 5, _ => T.x_BadLadders.xf
  | 6, _ => T.x_BadHouse.xf
  | 7, _ => T.x_BadBare.xf
  | 8, _ => T.x_BadJobs.xf
  | 9, _ => T.x_BadJournal.xf
  | 10, _ => T.x_BadClaim.xf
  | 11, _ => T.x_BadStep.xf
  | 12, _ => T.x_BadText.xf
  | 13, _ => T.x_BadCommand.xf
  | 14, _ => T.x_NoSuch.xf
  | 15, _ => T.x_Taken.xf
  | 16, _ => T.x_NoPlan.xf
  | n + 17, h => absurd h (by omega)
/-- who is of which class -/
structure Kit (T : Txt K mg) : Prop where
  own : ∀ m n, m < 17 → n < 17 → PySem.W.kitOne K (.ref (T.C m)) (.ref (T.C n)) = some (decide (m = n))
  fam : ∀ m j, m < 17 → j < 4 → PySem.W.kitOne K (.ref (T.C m)) (.ref (T.fam j)) = some (decide (famOf m = j))
  pe : ∀ m, m < 17 → PySem.W.kitOne K (.ref (T.C m)) (.ref T.x_PlanError.C) = some true
  ve : ∀ m, m < 17 → PySem.W.kitOne K (.ref (T.C m)) (.type "ValueError") = some true
  exm : ∀ m j, m < 17 → j < 4 → PySem.W.exmOne K (.ref (T.C m)) (.ref (T.fam j)) = some (decide (famOf m = j))
/-! ### _law_made -/
def spMade (T : Txt K mg) : Sp := fun vs H Q _ => ∃ (n : Nat) (x y : V) (b : Bool), vs = [.int n, x, y, .bl b] ∧ n < 17 ∧
  ∀ (a d : Addr) (H' : Hp), H a = none → H d = none → H' a = some (exo a (T.C n) (some d)) → H' d = some (exd d (flds x y n)) → Ex H H' → Q (.ref a) H'
theorem ok_made (T : Txt K mg) : FnOk P w K mg base CX0 3 T.d_law_made.f T.d_law_made.fd ["number", "one", "other", "named"] (spMade T) := by
  refine T.d_law_made.F.ok sc_law_made (fun vs H Q E h => ?_) (fun cdv A outer s H vs Q E hr h => ?_)
  · obtain ⟨n, x, y, b, rfl, _⟩ := h
    rfl
  · obtain ⟨n, x, y, b, rfl, hn, k⟩ := h
    refine ⟨_, (pss_cons (ps_if (pt_cmpR op_eq (pv 0) pe_int (nomark _)) (pss_one (ps_ret (pe_ifExp (pt_val (pv 3)) (pe_mkW T.x_BadName.m (okI_BadName T.x_BadName) (hr.mono (by first | decide | omega)) (kI_BadName T.x_BadName) pass0 rfl T.x_BadName.g (pk_cons (pv 1) pk_nil)) (pe_mkP T.x_BadName.m (okI_BadName T.x_BadName) (hr.mono (by first | decide | omega)) (bI_BadName T.x_BadName) pass0 rfl T.x_BadName.g (pa_cons (pv 1) pa_nil)))))
  pss_nil)
  (pss_cons (ps_if (pt_cmpR op_eq (pv 0) pe_int (nomark _)) (pss_one (ps_ret (pe_ifExp (pt_val (pv 3)) (pe_mkW T.x_BadHands.m (okI_BadHands T.x_BadHands) (hr.mono (by first | decide | omega)) (kI_BadHands T.x_BadHands) pass0 rfl T.x_BadHands.g (pk_cons (pv 2) (pk_cons (pv 1) pk_nil))) (pe_mkP T.x_BadHands.m (okI_BadHands T.x_BadHands) (hr.mono (by first | decide | omega)) (bI_BadHands T.x_BadHands) pass0 rfl T.x_BadHands.g (pa_cons (pv 1) (pa_cons (pv 2) pa_nil))))))
  pss_nil)
  (pss_cons (ps_if (pt_cmpR op_eq (pv 0) pe_int (nomark _)) (pss_one (ps_ret (pe_ifExp (pt_val (pv 3)) (pe_mkW T.x_BadCalendar.m (okI_BadCalendar T.x_BadCalendar) (hr.mono (by first | decide | omega)) (kI_BadCalendar T.x_BadCalendar) pass0 rfl T.x_BadCalendar.g (pk_cons (pv 2) (pk_cons (pv 1) pk_nil))) (pe_mkP T.x_BadCalendar.m (okI_BadCalendar T.x_BadCalendar) (hr.mono (by first | decide | omega)) (bI_BadCalendar T.x_BadCalendar) pass0 rfl T.x_BadCalendar.g (pa_cons (pv 1) (pa_cons (pv 2) pa_nil))))))
  pss_nil)
  (pss_cons (ps_if (pt_cmpR op_eq (pv 0) pe_int (nomark _)) (pss_one (ps_ret (pe_ifExp (pt_val (pv 3)) (pe_mkW T.x_BadSheet.m (okI_BadSheet T.x_BadSheet) (hr.mono (by first | decide | omega)) (kI_BadSheet T.x_BadSheet) pass0 rfl T.x_BadSheet.g (pk_cons (pv 2) (pk_cons (pv 1) pk_nil))) (pe_mkP T.x_BadSheet.m (okI_BadSheet T.x_BadSheet) (hr.mono (by first | decide | omega)) (bI_BadSheet T.x_BadSheet) pass0 rfl T.x_BadSheet.g (pa_cons (pv 1) (pa_cons (pv 2) pa_nil))))))
  pss_nil)
  (pss_cons (ps_if (pt_cmpR op_eq (pv 0) pe_int (nomark _)) (pss_one (ps_ret (pe_ifExp (pt_val (pv 3)) (pe_mkW T.x_BadPlan.m (okI_BadPlan T.x_BadPlan) (hr.mono (by first | decide | omega)) (kI_BadPlan T.x_BadPlan) pass0 rfl T.x_BadPlan.g (pk_cons (pv 2) (pk_cons (pv 1) pk_nil))) (pe_mkP T.x_BadPlan.m (okI_BadPlan T.x_BadPlan) (hr.mono (by first | decide | omega)) (bI_BadPlan T.x_BadPlan) pass0 rfl T.x_BadPlan.g (pa_cons (pv 1) (pa_cons (pv 2) pa_nil))))))
  pss_nil)
  (pss_cons (ps_if (pt_cmpR op_eq (pv 0) pe_int (nomark _)) (pss_one (ps_ret (pe_ifExp (pt_val (pv 3)) (pe_mkW T.x_BadLadders.m (okI_BadLadders T.x_BadLadders) (hr.mono (by first | decide | omega)) (kI_BadLadders T.x_BadLadders) pass0 rfl T.x_BadLadders.g (pk_cons (pv 2) (pk_cons (pv 1) pk_nil))) (pe_mkP T.x_BadLadders.m (okI_BadLadders T.x_BadLadders) (hr.mono (by first | decide | omega)) (bI_BadLadders T.x_BadLadders) pass0 rfl T.x_BadLadders.g (pa_cons (pv 1) (pa_cons (pv 2) pa_nil))))))
  pss_nil)
  (pss_cons (ps_if (pt_cmpR op_eq (pv 0) pe_int (nomark _)) (pss_one (ps_ret (pe_ifExp (pt_val (pv 3)) (pe_mkW T.x_BadHouse.m (okI_BadHouse T.x_BadHouse) (hr.mono (by first | decide | omega)) (kI_BadHouse T.x_BadHouse) pass0 rfl T.x_BadHouse.g (pk_cons (pv 2) (pk_cons (pv 1) pk_nil))) (pe_mkP T.x_BadHouse.m (okI_BadHouse T.x_BadHouse) (hr.mono (by first | decide | omega)) (bI_BadHouse T.x_BadHouse) pass0 rfl T.x_BadHouse.g (pa_cons (pv 1) (pa_cons (pv 2) pa_nil))))))
  pss_nil)
  (pss_cons (ps_if (pt_cmpR op_eq (pv 0) pe_int (nomark _)) (pss_one (ps_ret (pe_ifExp (pt_val (pv 3)) (pe_mkW T.x_BadBare.m (okI_BadBare T.x_BadBare) (hr.mono (by first | decide | omega)) (kI_BadBare T.x_BadBare) pass0 rfl T.x_BadBare.g (pk_cons (pv 2) (pk_cons (pv 1) pk_nil))) (pe_mkP T.x_BadBare.m (okI_BadBare T.x_BadBare) (hr.mono (by first | decide | omega)) (bI_BadBare T.x_BadBare) pass0 rfl T.x_BadBare.g (pa_cons (pv 1) (pa_cons (pv 2) pa_nil))))))
  pss_nil)
  (pss_cons (ps_if (pt_cmpR op_eq (pv 0) pe_int (nomark _)) (pss_one (ps_ret (pe_ifExp (pt_val (pv 3)) (pe_mkW T.x_BadJobs.m (okI_BadJobs T.x_BadJobs) (hr.mono (by first | decide | omega)) (kI_BadJobs T.x_BadJobs) pass0 rfl T.x_BadJobs.g (pk_cons (pv 2) (pk_cons (pv 1) pk_nil))) (pe_mkP T.x_BadJobs.m (okI_BadJobs T.x_BadJobs) (hr.mono (by first | decide | omega)) (bI_BadJobs T.x_BadJobs) pass0 rfl T.x_BadJobs.g (pa_cons (pv 1) (pa_cons (pv 2) pa_nil))))))
  pss_nil)
  (pss_cons (ps_if (pt_cmpR op_eq (pv 0) pe_int (nomark _)) (pss_one (ps_ret (pe_ifExp (pt_val (pv 3)) (pe_mkW T.x_BadJournal.m (okI_BadJournal T.x_BadJournal) (hr.mono (by first | decide | omega)) (kI_BadJournal T.x_BadJournal) pass0 rfl T.x_BadJournal.g (pk_cons (pv 2) (pk_cons (pv 1) pk_nil))) (pe_mkP T.x_BadJournal.m (okI_BadJournal T.x_BadJournal) (hr.mono (by first | decide | omega)) (bI_BadJournal T.x_BadJournal) pass0 rfl T.x_BadJournal.g (pa_cons (pv 1) (pa_cons (pv 2) pa_nil))))))
  pss_nil)
  (pss_cons (ps_if (pt_cmpR op_eq (pv 0) pe_int (nomark _)) (pss_one (ps_ret (pe_ifExp (pt_val (pv 3)) (pe_mkW T.x_BadClaim.m (okI_BadClaim T.x_BadClaim) (hr.mono (by first | decide | omega)) (kI_BadClaim T.x_BadClaim) pass0 rfl T.x_BadClaim.g (pk_cons (pv 1) pk_nil)) (pe_mkP T.x_BadClaim.m (okI_BadClaim T.x_BadClaim) (hr.mono (by first | decide | omega)) (bI_BadClaim T.x_BadClaim) pass0 rfl T.x_BadClaim.g (pa_cons (pv 1) pa_nil)))))
  pss_nil)
  (pss_cons (ps_if (pt_cmpR op_eq (pv 0) pe_int (nomark _)) (pss_one (ps_ret (pe_ifExp (pt_val (pv 3)) (pe_mkW T.x_BadStep.m (okI_BadStep T.x_BadStep) (hr.mono (by first | decide | omega)) (kI_BadStep T.x_BadStep) pass0 rfl T.x_BadStep.g (pk_cons (pv 1) pk_nil)) (pe_mkP T.x_BadStep.m (okI_BadStep T.x_BadStep) (hr.mono (by first | decide | omega)) (bI_BadStep T.x_BadStep) pass0 rfl T.x_BadStep.g (pa_cons (pv 1) pa_nil)))))
  pss_nil)
  (pss_cons (ps_if (pt_cmpR op_eq (pv 0) pe_int (nomark _)) (pss_one (ps_ret (pe_ifExp (pt_val (pv 3)) (pe_mkW T.x_BadText.m (okI_BadText T.x_BadText) (hr.mono (by first | decide | omega)) (kI_BadText T.x_BadText) pass0 rfl T.x_BadText.g (pk_cons (pv 2) (pk_cons (pv 1) pk_nil))) (pe_mkP T.x_BadText.m (okI_BadText T.x_BadText) (hr.mono (by first | decide | omega)) (bI_BadText T.x_BadText) pass0 rfl T.x_BadText.g (pa_cons (pv 1) (pa_cons (pv 2) pa_nil))))))
  pss_nil)
  (pss_cons (ps_if (pt_cmpR op_eq (pv 0) pe_int (nomark _)) (pss_one (ps_ret (pe_ifExp (pt_val (pv 3)) (pe_mkW T.x_BadCommand.m (okI_BadCommand T.x_BadCommand) (hr.mono (by first | decide | omega)) (kI_BadCommand T.x_BadCommand) pass0 rfl T.x_BadCommand.g (pk_cons (pv 1) pk_nil)) (pe_mkP T.x_BadCommand.m (okI_BadCommand T.x_BadCommand) (hr.mono (by first | decide | omega)) (bI_BadCommand T.x_BadCommand) pass0 rfl T.x_BadCommand.g (pa_cons (pv 1) pa_nil)))))
  pss_nil)
  (pss_cons (ps_if (pt_cmpR op_eq (pv 0) pe_int (nomark _)) (pss_one (ps_ret (pe_ifExp (pt_val (pv 3)) (pe_mkW T.x_NoSuch.m (okI_NoSuch T.x_NoSuch) (hr.mono (by first | decide | omega)) (kI_NoSuch T.x_NoSuch) pass0 rfl T.x_NoSuch.g (pk_cons (pv 2) (pk_cons (pv 1) pk_nil))) (pe_mkP T.x_NoSuch.m (okI_NoSuch T.x_NoSuch) (hr.mono (by first | decide | omega)) (bI_NoSuch T.x_NoSuch) pass0 rfl T.x_NoSuch.g (pa_cons (pv 1) (pa_cons (pv 2) pa_nil))))))
  pss_nil)
  (pss_cons (ps_if (pt_cmpR op_eq (pv 0) pe_int (nomark _)) (pss_one (ps_ret (pe_ifExp (pt_val (pv 3)) (pe_mkW T.x_Taken.m (okI_Taken T.x_Taken) (hr.mono (by first | decide | omega)) (kI_Taken T.x_Taken) pass0 rfl T.x_Taken.g (pk_cons (pv 1) pk_nil)) (pe_mkP T.x_Taken.m (okI_Taken T.x_Taken) (hr.mono (by first | decide | omega)) (bI_Taken T.x_Taken) pass0 rfl T.x_Taken.g (pa_cons (pv 1) pa_nil)))))
  pss_nil)
  (pss_cons (ps_if (pt_cmpR op_eq (pv 0) pe_int (nomark _)) (pss_one (ps_ret (pe_ifExp (pt_val (pv 3)) (pe_mkW T.x_NoPlan.m (okI_NoPlan T.x_NoPlan) (hr.mono (by first | decide | omega)) (kI_NoPlan T.x_NoPlan) pass0 rfl T.x_NoPlan.g (pk_cons (pv 1) pk_nil)) (pe_mkP T.x_NoPlan.m (okI_NoPlan T.x_NoPlan) (hr.mono (by first | decide | omega)) (bI_NoPlan T.x_NoPlan) pass0 rfl T.x_NoPlan.g (pa_cons (pv 1) pa_nil)))))
  pss_nil)
  (pss_one (ps_ret pe_non))))))))))))))))))), ?_⟩
    match n, hn, k with
    | 0, _, k =>
      refine ⟨_, rfl, rfl, _, rfl, ifT rfl ?_⟩
      refine ⟨_, rfl, _, rfl, ?_⟩
      cases b with
      | true => exact ifT rfl ⟨_, rfl, rfl, fun a ha => ⟨a, [x], rfl, rfl, upd_same, fun d H1 hd hda h1 h2 h3 => ⟨rfl, k a d H1 ha (by rw [upd_ne hda] at hd; exact hd) h1 h2 fun b o e => h3 b o (ne_of_none e ha) (by rw [upd_ne (ne_of_none e ha)]; exact e)⟩⟩⟩
      | false => exact ifF rfl ⟨_, rfl, (by show 1 ≤ 1000; decide), fun a ha => ⟨a, [x], rfl, rfl, upd_same, fun d H1 hd hda h1 h2 h3 => ⟨rfl, k a d H1 ha (by rw [upd_ne hda] at hd; exact hd) h1 h2 fun b o e => h3 b o (ne_of_none e ha) (by rw [upd_ne (ne_of_none e ha)]; exact e)⟩⟩⟩
    | 1, _, k =>
      refine ⟨_, rfl, rfl, _, rfl, ifF rfl ?_⟩
      refine ⟨_, rfl, rfl, _, rfl, ifT rfl ?_⟩
      refine ⟨_, rfl, _, rfl, ?_⟩
      cases b with
      | true => exact ifT rfl ⟨_, rfl, _, rfl, rfl, fun a ha => ⟨a, [x, y], rfl, rfl, upd_same, fun d H1 hd hda h1 h2 h3 => ⟨rfl, k a d H1 ha (by rw [upd_ne hda] at hd; exact hd) h1 h2 fun b o e => h3 b o (ne_of_none e ha) (by rw [upd_ne (ne_of_none e ha)]; exact e)⟩⟩⟩
      | false => exact ifF rfl ⟨_, rfl, _, rfl, (by show 2 ≤ 1000; decide), fun a ha => ⟨a, [x, y], rfl, rfl, upd_same, fun d H1 hd hda h1 h2 h3 => ⟨rfl, k a d H1 ha (by rw [upd_ne hda] at hd; exact hd) h1 h2 fun b o e => h3 b o (ne_of_none e ha) (by rw [upd_ne (ne_of_none e ha)]; exact e)⟩⟩⟩
    | 2, _, k =>
      refine ⟨_, rfl, rfl, _, rfl, ifF rfl ?_⟩
      refine ⟨_, rfl, rfl, _, rfl, ifF rfl ?_⟩
      refine ⟨_, rfl, rfl, _, rfl, ifT rfl ?_⟩
      refine ⟨_, rfl, _, rfl, ?_⟩
      cases b with
      | true => exact ifT rfl ⟨_, rfl, _, rfl, rfl, fun a ha => ⟨a, [x, y], rfl, rfl, upd_same, fun d H1 hd hda h1 h2 h3 => ⟨rfl, k a d H1 ha (by rw [upd_ne hda] at hd; exact hd) h1 h2 fun b o e => h3 b o (ne_of_none e ha) (by rw [upd_ne (ne_of_none e ha)]; exact e)⟩⟩⟩
      | false => exact ifF rfl ⟨_, rfl, _, rfl, (by show 2 ≤ 1000; decide), fun a ha => ⟨a, [x, y], rfl, rfl, upd_same, fun d H1 hd hda h1 h2 h3 => ⟨rfl, k a d H1 ha (by rw [upd_ne hda] at hd; exact hd) h1 h2 fun b o e => h3 b o (ne_of_none e ha) (by rw [upd_ne (ne_of_none e ha)]; exact e)⟩⟩⟩
    | 3, _, k =>
      refine ⟨_, rfl, rfl, _, rfl, ifF rfl ?_⟩
      refine ⟨_, rfl, rfl, _, rfl, ifF rfl ?_⟩
      refine ⟨_, rfl, rfl, _, rfl, ifF rfl ?_⟩
      refine ⟨_, rfl, rfl, _, rfl, ifT rfl ?_⟩
      refine ⟨_, rfl, _, rfl, ?_⟩
      cases b with
      | true => exact ifT rfl ⟨_, rfl, _, rfl, rfl, fun a ha => ⟨a, [x, y], rfl, rfl, upd_same, fun d H1 hd hda h1 h2 h3 => ⟨rfl, k a d H1 ha (by rw [upd_ne hda] at hd; exact hd) h1 h2 fun b o e => h3 b o (ne_of_none e ha) (by rw [upd_ne (ne_of_none e ha)]; exact e)⟩⟩⟩
      | false => exact ifF rfl ⟨_, rfl, _, rfl, (by show 2 ≤ 1000; decide), fun a ha => ⟨a, [x, y], rfl, rfl, upd_same, fun d H1 hd hda h1 h2 h3 => ⟨rfl, k a d H1 ha (by rw [upd_ne hda] at hd; exact hd) h1 h2 fun b o e => h3 b o (ne_of_none e ha) (by rw [upd_ne (ne_of_none e ha)]; exact e)⟩⟩⟩
    | 4, _, k =>
      refine ⟨_, rfl, rfl, _, rfl, ifF rfl ?_⟩
      refine ⟨_, rfl, rfl, _, rfl, ifF rfl ?_⟩
      refine ⟨_, rfl, rfl, _, rfl, ifF rfl ?_⟩
      refine ⟨_, rfl, rfl, _, rfl, ifF rfl ?_⟩
      refine ⟨_, rfl, rfl, _, rfl, ifT rfl ?_⟩
      refine ⟨_, rfl, _, rfl, ?_⟩
      cases b with
      | true => exact ifT rfl ⟨_, rfl, _, rfl, rfl, fun a ha => ⟨a, [x, y], rfl, rfl, upd_same, fun d H1 hd hda h1 h2 h3 => ⟨rfl, k a d H1 ha (by rw [upd_ne hda] at hd; exact hd) h1 h2 fun b o e => h3 b o (ne_of_none e ha) (by rw [upd_ne (ne_of_none e ha)]; exact e)⟩⟩⟩
      | false => exact ifF rfl ⟨_, rfl, _, rfl, (by show 2 ≤ 1000; decide), fun a ha => ⟨a, [x, y], rfl, rfl, upd_same, fun d H1 hd hda h1 h2 h3 => ⟨rfl, k a d H1 ha (by rw [upd_ne hda] at hd; exact hd) h1 h2 fun b o e => h3 b o (ne_of_none e ha) (by rw [upd_ne (ne_of_none e ha)]; exact e)⟩⟩⟩
    | 5, _, k =>
      refine ⟨_, rfl, rfl, _, rfl, ifF rfl ?_⟩
      refine ⟨_, rfl, rfl, _, rfl, ifF rfl ?_⟩
      refine ⟨_, rfl, rfl, _, rfl, ifF rfl ?_⟩
      refine ⟨_, rfl, rfl, _, rfl, ifF rfl ?_⟩
      refine ⟨_, rfl, rfl, _, rfl, ifF rfl ?_⟩
      refine ⟨_, rfl, rfl, _, rfl, ifT rfl ?_⟩
      refine ⟨_, rfl, _, rfl, ?_⟩
      cases b with
      | true => exact ifT rfl ⟨_, rfl, _, rfl, rfl, fun a ha => ⟨a, [x, y], rfl, rfl, upd_same, fun d H1 hd hda h1 h2 h3 => ⟨rfl, k a d H1 ha (by rw [upd_ne hda] at hd; exact hd) h1 h2 fun b o e => h3 b o (ne_of_none e ha) (by rw [upd_ne (ne_of_none e ha)]; exact e)⟩⟩⟩
      | false => exact ifF rfl ⟨_, rfl, _, rfl, (by show 2 ≤ 1000; decide), fun a ha => ⟨a, [x, y], rfl, rfl, upd_same, fun d H1 hd hda h1 h2 h3 => ⟨rfl, k a d H1 ha (by rw [upd_ne hda] at hd; exact hd) h1 h2 fun b o e => h3 b o (ne_of_none e ha) (by rw [upd_ne (ne_of_none e ha)]; exact e)⟩⟩⟩
    | 6, _, k =>
      refine ⟨_, rfl, rfl, _, rfl, ifF rfl ?_⟩
      refine ⟨_, rfl, rfl, _, rfl, ifF rfl ?_⟩
      refine ⟨_, rfl, rfl, _, rfl, ifF rfl ?_⟩
      refine ⟨_, rfl, rfl, _, rfl, ifF rfl ?_⟩
      refine ⟨_, rfl, rfl, _, rfl, ifF rfl ?_⟩
      refine ⟨_, rfl, rfl, _, rfl, ifF rfl ?_⟩
      refine ⟨_, rfl, rfl, _, rfl, ifT rfl ?_⟩
      refine ⟨_, rfl, _, rfl, ?_⟩
      cases b with
      | true => exact ifT rfl ⟨_, rfl, _, rfl, rfl, fun a ha => ⟨a, [x, y], rfl, rfl, upd_same, fun d H1 hd hda h1 h2 h3 => ⟨rfl, k a d H1 ha (by rw [upd_ne hda] at hd; exact hd) h1 h2 fun b o e => h3 b o (ne_of_none e ha) (by rw [upd_ne (ne_of_none e ha)]; exact e)⟩⟩⟩
      | false => exact ifF rfl ⟨_, rfl, _, rfl, (by show 2 ≤ 1000; decide), fun a ha => ⟨a, [x, y], rfl, rfl, upd_same, fun d H1 hd hda h1 h2 h3 => ⟨rfl, k a d H1 ha (by rw [upd_ne hda] at hd; exact hd) h1 h2 fun b o e => h3 b o (ne_of_none e ha) (by rw [upd_ne (ne_of_none e ha)]; exact e)⟩⟩⟩
    | 7, _, k =>
      refine ⟨_, rfl, rfl, _, rfl, ifF rfl ?_⟩
      refine ⟨_, rfl, rfl, _, rfl, ifF rfl ?_⟩
      refine ⟨_, rfl, rfl, _, rfl, ifF rfl ?_⟩
      refine ⟨_, rfl, rfl, _, rfl, ifF rfl ?_⟩
      refine ⟨_, rfl, rfl, _, rfl, ifF rfl ?_⟩
      refine ⟨_, rfl, rfl, _, rfl, ifF rfl ?_⟩
      refine ⟨_, rfl, rfl, _, rfl, ifF rfl ?_⟩
      refine ⟨_, rfl, rfl, _, rfl, ifT rfl ?_⟩
      refine ⟨_, rfl, _, rfl, ?_⟩
      cases b with
      | true => exact ifT rfl ⟨_, rfl, _, rfl, rfl, fun a ha => ⟨a, [x, y], rfl, rfl, upd_same, fun d H1 hd hda h1 h2 h3 => ⟨rfl, k a d H1 ha (by rw [upd_ne hda] at hd; exact hd) h1 h2 fun b o e => h3 b o (ne_of_none e ha) (by rw [upd_ne (ne_of_none e ha)]; exact e)⟩⟩⟩
      | false => exact ifF rfl ⟨_, rfl, _, rfl, (by show 2 ≤ 1000; decide), fun a ha => ⟨a, [x, y], rfl, rfl, upd_same, fun d H1 hd hda h1 h2 h3 => ⟨rfl, k a d H1 ha (by rw [upd_ne hda] at hd; exact hd) h1 h2 fun b o e => h3 b o (ne_of_none e ha) (by rw [upd_ne (ne_of_none e ha)]; exact e)⟩⟩⟩
    | 8, _, k =>
      refine ⟨_, rfl, rfl, _, rfl, ifF rfl ?_⟩
      refine ⟨_, rfl, rfl, _, rfl, ifF rfl ?_⟩
      refine ⟨_, rfl, rfl, _, rfl, ifF rfl ?_⟩
      refine ⟨_, rfl, rfl, _, rfl, ifF rfl ?_⟩
      refine ⟨_, rfl, rfl, _, rfl, ifF rfl ?_⟩
      refine ⟨_, rfl, rfl, _, rfl, ifF rfl ?_⟩
      refine ⟨_, rfl, rfl, _, rfl, ifF rfl ?_⟩
      refine ⟨_, rfl, rfl, _, rfl, ifF rfl ?_⟩
      refine ⟨_, rfl, rfl, _, rfl, ifT rfl ?_⟩
      refine ⟨_, rfl, _, rfl, ?_⟩
      cases b with
      | true => exact ifT rfl ⟨_, rfl, _, rfl, rfl, fun a ha => ⟨a, [x, y], rfl, rfl, upd_same, fun d H1 hd hda h1 h2 h3 => ⟨rfl, k a d H1 ha (by rw [upd_ne hda] at hd; exact hd) h1 h2 fun b o e => h3 b o (ne_of_none e ha) (by rw [upd_ne (ne_of_none e ha)]; exact e)⟩⟩⟩
      | false => exact ifF rfl ⟨_, rfl, _, rfl, (by show 2 ≤ 1000; decide), fun a ha => ⟨a, [x, y], rfl, rfl, upd_same, fun d H1 hd hda h1 h2 h3 => ⟨rfl, k a d H1 ha (by rw [upd_ne hda] at hd; exact hd) h1 h2 fun b o e => h3 b o (ne_of_none e ha) (by rw [upd_ne (ne_of_none e ha)]; exact e)⟩⟩⟩
    | 9, _, k =>
      refine ⟨_, rfl, rfl, _, rfl, ifF rfl ?_⟩
      refine ⟨_, rfl, rfl, _, rfl, ifF rfl ?_⟩
      refine ⟨_, rfl, rfl, _, rfl, ifF rfl ?_⟩
      refine ⟨_, rfl, rfl, _, rfl, ifF rfl ?_⟩
      refine ⟨_, rfl, rfl, _, rfl, ifF rfl ?_⟩
      refine ⟨_, rfl, rfl, _, rfl, ifF rfl ?_⟩
      refine ⟨_, rfl, rfl, _, rfl, ifF rfl ?_⟩
      refine ⟨_, rfl, rfl, _, rfl, ifF rfl ?_⟩
      refine ⟨_, rfl, rfl, _, rfl, ifF rfl ?_⟩
      refine ⟨_, rfl, rfl, _, rfl, ifT rfl ?_⟩
      refine ⟨_, rfl, _, rfl, ?_⟩
      cases b with
      | true => exact ifT rfl ⟨_, rfl, _, rfl, rfl, fun a ha => ⟨a, [x, y], rfl, rfl, upd_same, fun d H1 hd hda h1 h2 h3 => ⟨rfl, k a d H1 ha (by rw [upd_ne hda] at hd; exact hd) h1 h2 fun b o e => h3 b o (ne_of_none e ha) (by rw [upd_ne (ne_of_none e ha)]; exact e)⟩⟩⟩
      | false => exact ifF rfl ⟨_, rfl, _, rfl, (by show 2 ≤ 1000; decide), fun a ha => ⟨a, [x, y], rfl, rfl, upd_same, fun d H1 hd hda h1 h2 h3 => ⟨rfl, k a d H1 ha (by rw [upd_ne hda] at hd; exact hd) h1 h2 fun b o e => h3 b o (ne_of_none e ha) (by rw [upd_ne (ne_of_none e ha)]; exact e)⟩⟩⟩
    | 10, _, k =>
      refine ⟨_, rfl, rfl, _, rfl, ifF rfl ?_⟩
      refine ⟨_, rfl, rfl, _, rfl, ifF rfl ?_⟩
      refine ⟨_, rfl, rfl, _, rfl, ifF rfl ?_⟩
      refine ⟨_, rfl, rfl, _, rfl, ifF rfl ?_⟩
      refine ⟨_, rfl, rfl, _, rfl, ifF rfl ?_⟩
      refine ⟨_, rfl, rfl, _, rfl, ifF rfl ?_⟩
      refine ⟨_, rfl, rfl, _, rfl, ifF rfl ?_⟩
      refine ⟨_, rfl, rfl, _, rfl, ifF rfl ?_⟩
      refine ⟨_, rfl, rfl, _, rfl, ifF rfl ?_⟩
      refine ⟨_, rfl, rfl, _, rfl, ifF rfl ?_⟩
      refine ⟨_, rfl, rfl, _, rfl, ifT rfl ?_⟩
      refine ⟨_, rfl, _, rfl, ?_⟩
      cases b with
      | true => exact ifT rfl ⟨_, rfl, rfl, fun a ha => ⟨a, [x], rfl, rfl, upd_same, fun d H1 hd hda h1 h2 h3 => ⟨rfl, k a d H1 ha (by rw [upd_ne hda] at hd; exact hd) h1 h2 fun b o e => h3 b o (ne_of_none e ha) (by rw [upd_ne (ne_of_none e ha)]; exact e)⟩⟩⟩
      | false => exact ifF rfl ⟨_, rfl, (by show 1 ≤ 1000; decide), fun a ha => ⟨a, [x], rfl, rfl, upd_same, fun d H1 hd hda h1 h2 h3 => ⟨rfl, k a d H1 ha (by rw [upd_ne hda] at hd; exact hd) h1 h2 fun b o e => h3 b o (ne_of_none e ha) (by rw [upd_ne (ne_of_none e ha)]; exact e)⟩⟩⟩
    | 11, _, k =>
      refine ⟨_, rfl, rfl, _, rfl, ifF rfl ?_⟩
      refine ⟨_, rfl, rfl, _, rfl, ifF rfl ?_⟩
      refine ⟨_, rfl, rfl, _, rfl, ifF rfl ?_⟩
      refine ⟨_, rfl, rfl, _, rfl, ifF rfl ?_⟩
      refine ⟨_, rfl, rfl, _, rfl, ifF rfl ?_⟩
      refine ⟨_, rfl, rfl, _, rfl, ifF rfl ?_⟩
      refine ⟨_, rfl, rfl, _, rfl, ifF rfl ?_⟩
      refine ⟨_, rfl, rfl, _, rfl, ifF rfl ?_⟩
      refine ⟨_, rfl, rfl, _, rfl, ifF rfl ?_⟩
      refine ⟨_, rfl, rfl, _, rfl, ifF rfl ?_⟩
      refine ⟨_, rfl, rfl, _, rfl, ifF rfl ?_⟩
      refine ⟨_, rfl, rfl, _, rfl, ifT rfl ?_⟩
      refine ⟨_, rfl, _, rfl, ?_⟩
      cases b with
      | true => exact ifT rfl ⟨_, rfl, rfl, fun a ha => ⟨a, [x], rfl, rfl, upd_same, fun d H1 hd hda h1 h2 h3 => ⟨rfl, k a d H1 ha (by rw [upd_ne hda] at hd; exact hd) h1 h2 fun b o e => h3 b o (ne_of_none e ha) (by rw [upd_ne (ne_of_none e ha)]; exact e)⟩⟩⟩
      | false => exact ifF rfl ⟨_, rfl, (by show 1 ≤ 1000; decide), fun a ha => ⟨a, [x], rfl, rfl, upd_same, fun d H1 hd hda h1 h2 h3 => ⟨rfl, k a d H1 ha (by rw [upd_ne hda] at hd; exact hd) h1 h2 fun b o e => h3 b o (ne_of_none e ha) (by rw [upd_ne (ne_of_none e ha)]; exact e)⟩⟩⟩
    | 12, _, k =>
      refine ⟨_, rfl, rfl, _, rfl, ifF rfl ?_⟩
      refine ⟨_, rfl, rfl, _, rfl, ifF rfl ?_⟩
      refine ⟨_, rfl, rfl, _, rfl, ifF rfl ?_⟩
      refine ⟨_, rfl, rfl, _, rfl, ifF rfl ?_⟩
      refine ⟨_, rfl, rfl, _, rfl, ifF rfl ?_⟩
      refine ⟨_, rfl, rfl, _, rfl, ifF rfl ?_⟩
      refine ⟨_, rfl, rfl, _, rfl, ifF rfl ?_⟩
      refine ⟨_, rfl, rfl, _, rfl, ifF rfl ?_⟩
      refine ⟨_, rfl, rfl, _, rfl, ifF rfl ?_⟩
      refine ⟨_, rfl, rfl, _, rfl, ifF rfl ?_⟩
      refine ⟨_, rfl, rfl, _, rfl, ifF rfl ?_⟩
      refine ⟨_, rfl, rfl, _, rfl, ifF rfl ?_⟩
      refine ⟨_, rfl, rfl, _, rfl, ifT rfl ?_⟩
      refine ⟨_, rfl, _, rfl, ?_⟩
      cases b with
      | true => exact ifT rfl ⟨_, rfl, _, rfl, rfl, fun a ha => ⟨a, [x, y], rfl, rfl, upd_same, fun d H1 hd hda h1 h2 h3 => ⟨rfl, k a d H1 ha (by rw [upd_ne hda] at hd; exact hd) h1 h2 fun b o e => h3 b o (ne_of_none e ha) (by rw [upd_ne (ne_of_none e ha)]; exact e)⟩⟩⟩
      | false => exact ifF rfl ⟨_, rfl, _, rfl, (by show 2 ≤ 1000; decide), fun a ha => ⟨a, [x, y], rfl, rfl, upd_same, fun d H1 hd hda h1 h2 h3 => ⟨rfl, k a d H1 ha (by rw [upd_ne hda] at hd; exact hd) h1 h2 fun b o e => h3 b o (ne_of_none e ha) (by rw [upd_ne (ne_of_none e ha)]; exact e)⟩⟩⟩
    | 13, _, k =>
      refine ⟨_, rfl, rfl, _, rfl, ifF rfl ?_⟩
      refine ⟨_, rfl, rfl, _, rfl, ifF rfl ?_⟩
      refine ⟨_, rfl, rfl, _, rfl, ifF rfl ?_⟩
      refine ⟨_, rfl, rfl, _, rfl, ifF rfl ?_⟩
      refine ⟨_, rfl, rfl, _, rfl, ifF rfl ?_⟩
      refine ⟨_, rfl, rfl, _, rfl, ifF rfl ?_⟩
      refine ⟨_, rfl, rfl, _, rfl, ifF rfl ?_⟩
      refine ⟨_, rfl, rfl, _, rfl, ifF rfl ?_⟩
      refine ⟨_, rfl, rfl, _, rfl, ifF rfl ?_⟩
      refine ⟨_, rfl, rfl, _, rfl, ifF rfl ?_⟩
      refine ⟨_, rfl, rfl, _, rfl, ifF rfl ?_⟩
      refine ⟨_, rfl, rfl, _, rfl, ifF rfl ?_⟩
      refine ⟨_, rfl, rfl, _, rfl, ifF rfl ?_⟩
      refine ⟨_, rfl, rfl, _, rfl, ifT rfl ?_⟩
      refine ⟨_, rfl, _, rfl, ?_⟩
      cases b with
      | true => exact ifT rfl ⟨_, rfl, rfl, fun a ha => ⟨a, [x], rfl, rfl, upd_same, fun d H1 hd hda h1 h2 h3 => ⟨rfl, k a d H1 ha (by rw [upd_ne hda] at hd; exact hd) h1 h2 fun b o e => h3 b o (ne_of_none e ha) (by rw [upd_ne (ne_of_none e ha)]; exact e)⟩⟩⟩
      | false => exact ifF rfl ⟨_, rfl, (by show 1 ≤ 1000; decide), fun a ha => ⟨a, [x], rfl, rfl, upd_same, fun d H1 hd hda h1 h2 h3 => ⟨rfl, k a d H1 ha (by rw [upd_ne hda] at hd; exact hd) h1 h2 fun b o e => h3 b o (ne_of_none e ha) (by rw [upd_ne (ne_of_none e ha)]; exact e)⟩⟩⟩
    | 14, _, k =>
      refine ⟨_, rfl, rfl, _, rfl, ifF rfl ?_⟩
      refine ⟨_, rfl, rfl, _, rfl, ifF rfl ?_⟩
      refine ⟨_, rfl, rfl, _, rfl, ifF rfl ?_⟩
      refine ⟨_, rfl, rfl, _, rfl, ifF rfl ?_⟩
      refine ⟨_, rfl, rfl, _, rfl, ifF rfl ?_⟩
      refine ⟨_, rfl, rfl, _, rfl, ifF rfl ?_⟩
      refine ⟨_, rfl, rfl, _, rfl, ifF rfl ?_⟩
      refine ⟨_, rfl, rfl, _, rfl, ifF rfl ?_⟩
      refine ⟨_, rfl, rfl, _, rfl, ifF rfl ?_⟩
      refine ⟨_, rfl, rfl, _, rfl, ifF rfl ?_⟩
      refine ⟨_, rfl, rfl, _, rfl, ifF rfl ?_⟩
      refine ⟨_, rfl, rfl, _, rfl, ifF rfl ?_⟩
      refine ⟨_, rfl, rfl, _, rfl, ifF rfl ?_⟩
      refine ⟨_, rfl, rfl, _, rfl, ifF rfl ?_⟩
      refine ⟨_, rfl, rfl, _, rfl, ifT rfl ?_⟩
      refine ⟨_, rfl, _, rfl, ?_⟩
      cases b with
      | true => exact ifT rfl ⟨_, rfl, _, rfl, rfl, fun a ha => ⟨a, [x, y], rfl, rfl, upd_same, fun d H1 hd hda h1 h2 h3 => ⟨rfl, k a d H1 ha (by rw [upd_ne hda] at hd; exact hd) h1 h2 fun b o e => h3 b o (ne_of_none e ha) (by rw [upd_ne (ne_of_none e ha)]; exact e)⟩⟩⟩
      | false => exact ifF rfl ⟨_, rfl, _, rfl, (by show 2 ≤ 1000; decide), fun a ha => ⟨a, [x, y], rfl, rfl, upd_same, fun d H1 hd hda h1 h2 h3 => ⟨rfl, k a d H1 ha (by rw [upd_ne hda] at hd; exact hd) h1 h2 fun b o e => h3 b o (ne_of_none e ha) (by rw [upd_ne (ne_of_none e ha)]; exact e)⟩⟩⟩
    | 15, _, k =>
      refine ⟨_, rfl, rfl, _, rfl, ifF rfl ?_⟩
      refine ⟨_, rfl, rfl, _, rfl, ifF rfl ?_⟩
      refine ⟨_, rfl, rfl, _, rfl, ifF rfl ?_⟩
      refine ⟨_, rfl, rfl, _, rfl, ifF rfl ?_⟩
      refine ⟨_, rfl, rfl, _, rfl, ifF rfl ?_⟩
      refine ⟨_, rfl, rfl, _, rfl, ifF rfl ?_⟩
      refine ⟨_, rfl, rfl, _, rfl, ifF rfl ?_⟩
      refine ⟨_, rfl, rfl, _, rfl, ifF rfl ?_⟩
      refine ⟨_, rfl, rfl, _, rfl, ifF rfl ?_⟩
      refine ⟨_, rfl, rfl, _, rfl, ifF rfl ?_⟩
      refine ⟨_, rfl, rfl, _, rfl, ifF rfl ?_⟩
      refine ⟨_, rfl, rfl, _, rfl, ifF rfl ?_⟩
      refine ⟨_, rfl, rfl, _, rfl, ifF rfl ?_⟩
      refine ⟨_, rfl, rfl, _, rfl, ifF rfl ?_⟩
      refine ⟨_, rfl, rfl, _, rfl, ifF rfl ?_⟩
      refine ⟨_, rfl, rfl, _, rfl, ifT rfl ?_⟩
      refine ⟨_, rfl, _, rfl, ?_⟩
      cases b with
      | true => exact ifT rfl ⟨_, rfl, rfl, fun a ha => ⟨a, [x], rfl, rfl, upd_same, fun d H1 hd hda h1 h2 h3 => ⟨rfl, k a d H1 ha (by rw [upd_ne hda] at hd; exact hd) h1 h2 fun b o e => h3 b o (ne_of_none e ha) (by rw [upd_ne (ne_of_none e ha)]; exact e)⟩⟩⟩
      | false => exact ifF rfl ⟨_, rfl, (by show 1 ≤ 1000; decide), fun a ha => ⟨a, [x], rfl, rfl, upd_same, fun d H1 hd hda h1 h2 h3 => ⟨rfl, k a d H1 ha (by rw [upd_ne hda] at hd; exact hd) h1 h2 fun b o e => h3 b o (ne_of_none e ha) (by rw [upd_ne (ne_of_none e ha)]; exact e)⟩⟩⟩
    | 16, _, k =>
      refine ⟨_, rfl, rfl, _, rfl, ifF rfl ?_⟩
      refine ⟨_, rfl, rfl, _, rfl, ifF rfl ?_⟩
      refine ⟨_, rfl, rfl, _, rfl, ifF rfl ?_⟩
      refine ⟨_, rfl, rfl, _, rfl, ifF rfl ?_⟩
      refine ⟨_, rfl, rfl, _, rfl, ifF rfl ?_⟩
      refine ⟨_, rfl, rfl, _, rfl, ifF rfl ?_⟩
      refine ⟨_, rfl, rfl, _, rfl, ifF rfl ?_⟩
      refine ⟨_, rfl, rfl, _, rfl, ifF rfl ?_⟩
      refine ⟨_, rfl, rfl, _, rfl, ifF rfl ?_⟩
      refine ⟨_, rfl, rfl, _, rfl, ifF rfl ?_⟩
      refine ⟨_, rfl, rfl, _, rfl, ifF rfl ?_⟩
      refine ⟨_, rfl, rfl, _, rfl, ifF rfl ?_⟩
      refine ⟨_, rfl, rfl, _, rfl, ifF rfl ?_⟩
      refine ⟨_, rfl, rfl, _, rfl, ifF rfl ?_⟩
      refine ⟨_, rfl, rfl, _, rfl, ifF rfl ?_⟩
      refine ⟨_, rfl, rfl, _, rfl, ifF rfl ?_⟩
      refine ⟨_, rfl, rfl, _, rfl, ifT rfl ?_⟩
      refine ⟨_, rfl, _, rfl, ?_⟩
      cases b with
      | true => exact ifT rfl ⟨_, rfl, rfl, fun a ha => ⟨a, [x], rfl, rfl, upd_same, fun d H1 hd hda h1 h2 h3 => ⟨rfl, k a d H1 ha (by rw [upd_ne hda] at hd; exact hd) h1 h2 fun b o e => h3 b o (ne_of_none e ha) (by rw [upd_ne (ne_of_none e ha)]; exact e)⟩⟩⟩
      | false => exact ifF rfl ⟨_, rfl, (by show 1 ≤ 1000; decide), fun a ha => ⟨a, [x], rfl, rfl, upd_same, fun d H1 hd hda h1 h2 h3 => ⟨rfl, k a d H1 ha (by rw [upd_ne hda] at hd; exact hd) h1 h2 fun b o e => h3 b o (ne_of_none e ha) (by rw [upd_ne (ne_of_none e ha)]; exact e)⟩⟩⟩
    | n + 17, h, _ => exact absurd h (by omega)
end
end K98
set_option Elab.async false
set_option linter.all false
set_option maxRecDepth 100000
set_option maxHeartbeats 8000000
namespace K98
open PySem PySem.Spec PyProof.Rows L2 XcV Evl HB
section
variable {P : Program} {w : World} {K : PySem.W.Frag} {mg : Str → Option Value} {base : Heap}
/-! ### _law_is: of a tracked exception, of a pinned one -/
def spIs (T : Txt K mg) : Sp := fun vs H Q _ => ∃ (n m : Nat) (a d : Addr) (fs : List (Str × V)), vs = [.int n, .ref a] ∧ n < 17 ∧ m < 17 ∧ H a = some (exo a (T.C m) (some d)) ∧ H d = some (exd d fs) ∧ Q (.bl (decide (m = n))) H
def spIsP (T : Txt K mg) : Addr → Value → Option Addr → Sp := fun a cls od vs H Q _ => ∃ (n m : Nat) (d : Addr) (fs : List (Str × V)), vs = [.int n, .ref a] ∧ n < 17 ∧ m < 17 ∧ cls = .ref (T.C m) ∧ od = some d ∧ H d = some (.xd fs) ∧ Q (.bl (decide (m = n))) H
theorem ok_is (T : Txt K mg) (Z : Kit T) : FnOk P w K mg base CX0 1 T.d_law_is.f T.d_law_is.fd ["number", "error"] (spIs T) := by
  refine T.d_law_is.F.ok sc_law_is (fun vs H Q E h => ?_) (fun cdv A outer s H vs Q E hr h => ?_)
  · obtain ⟨n, m, a, d, fs, rfl, _⟩ := h
    rfl
  · obtain ⟨n, m, a, d, fs, rfl, hn, hm, ha, hd, k⟩ := h
    refine ⟨_, (pss_cons (ps_if (pt_cmpR op_eq (pv 0) pe_int (nomark _)) (pss_one (ps_ret (pe_callB call_errIs (by rfl) T.z_isinstance bt_isinstance (pa_cons (pv 1) (pa_cons (pe_glob (v := .ref _) rfl T.x_BadName.g rfl) pa_nil)))))
  pss_nil)
  (pss_cons (ps_if (pt_cmpR op_eq (pv 0) pe_int (nomark _)) (pss_one (ps_ret (pe_callB call_errIs (by rfl) T.z_isinstance bt_isinstance (pa_cons (pv 1) (pa_cons (pe_glob (v := .ref _) rfl T.x_BadHands.g rfl) pa_nil)))))
  pss_nil)
  (pss_cons (ps_if (pt_cmpR op_eq (pv 0) pe_int (nomark _)) (pss_one (ps_ret (pe_callB call_errIs (by rfl) T.z_isinstance bt_isinstance (pa_cons (pv 1) (pa_cons (pe_glob (v := .ref _) rfl T.x_BadCalendar.g rfl) pa_nil)))))
  pss_nil)
  (pss_cons (ps_if (pt_cmpR op_eq (pv 0) pe_int (nomark _)) (pss_one (ps_ret (pe_callB call_errIs (by rfl) T.z_isinstance bt_isinstance (pa_cons (pv 1) (pa_cons (pe_glob (v := .ref _) rfl T.x_BadSheet.g rfl) pa_nil)))))
  pss_nil)
  (pss_cons (ps_if (pt_cmpR op_eq (pv 0) pe_int (nomark _)) (pss_one (ps_ret (pe_callB call_errIs (by rfl) T.z_isinstance bt_isinstance (pa_cons (pv 1) (pa_cons (pe_glob (v := .ref _) rfl T.x_BadPlan.g rfl) pa_nil)))))
  pss_nil)
  (pss_cons (ps_if (pt_cmpR op_eq (pv 0) pe_int (nomark _)) (pss_one (ps_ret (pe_callB call_errIs (by rfl) T.z_isinstance bt_isinstance (pa_cons (pv 1) (pa_cons (pe_glob (v := .ref _) rfl T.x_BadLadders.g rfl) pa_nil)))))
  pss_nil)
  (pss_cons (ps_if (pt_cmpR op_eq (pv 0) pe_int (nomark _)) (pss_one (ps_ret (pe_callB call_errIs (by rfl) T.z_isinstance bt_isinstance (pa_cons (pv 1) (pa_cons (pe_glob (v := .ref _) rfl T.x_BadHouse.g rfl) pa_nil)))))
  pss_nil)
  (pss_cons (ps_if (pt_cmpR op_eq (pv 0) pe_int (nomark _)) (pss_one (ps_ret (pe_callB call_errIs (by rfl) T.z_isinstance bt_isinstance (pa_cons (pv 1) (pa_cons (pe_glob (v := .ref _) rfl T.x_BadBare.g rfl) pa_nil)))))
  pss_nil)
  (pss_cons (ps_if (pt_cmpR op_eq (pv 0) pe_int (nomark _)) (pss_one (ps_ret (pe_callB call_errIs (by rfl) T.z_isinstance bt_isinstance (pa_cons (pv 1) (pa_cons (pe_glob (v := .ref _) rfl T.x_BadJobs.g rfl) pa_nil)))))
  pss_nil)
  (pss_cons (ps_if (pt_cmpR op_eq (pv 0) pe_int (nomark _)) (pss_one (ps_ret (pe_callB call_errIs (by rfl) T.z_isinstance bt_isinstance (pa_cons (pv 1) (pa_cons (pe_glob (v := .ref _) rfl T.x_BadJournal.g rfl) pa_nil)))))
  pss_nil)
  (pss_cons (ps_if (pt_cmpR op_eq (pv 0) pe_int (nomark _)) (pss_one (ps_ret (pe_callB call_errIs (by rfl) T.z_isinstance bt_isinstance (pa_cons (pv 1) (pa_cons (pe_glob (v := .ref _) rfl T.x_BadClaim.g rfl) pa_nil)))))
  pss_nil)
  (pss_cons (ps_if (pt_cmpR op_eq (pv 0) pe_int (nomark _)) (pss_one (ps_ret (pe_callB call_errIs (by rfl) T.z_isinstance bt_isinstance (pa_cons (pv 1) (pa_cons (pe_glob (v := .ref _) rfl T.x_BadStep.g rfl) pa_nil)))))
  pss_nil)
  (pss_cons (ps_if (pt_cmpR op_eq (pv 0) pe_int (nomark _)) (pss_one (ps_ret (pe_callB call_errIs (by rfl) T.z_isinstance bt_isinstance (pa_cons (pv 1) (pa_cons (pe_glob (v := .ref _) rfl T.x_BadText.g rfl) pa_nil)))))
  pss_nil)
  (pss_cons (ps_if (pt_cmpR op_eq (pv 0) pe_int (nomark _)) (pss_one (ps_ret (pe_callB call_errIs (by rfl) T.z_isinstance bt_isinstance (pa_cons (pv 1) (pa_cons (pe_glob (v := .ref _) rfl T.x_BadCommand.g rfl) pa_nil)))))
  pss_nil)
  (pss_cons (ps_if (pt_cmpR op_eq (pv 0) pe_int (nomark _)) (pss_one (ps_ret (pe_callB call_errIs (by rfl) T.z_isinstance bt_isinstance (pa_cons (pv 1) (pa_cons (pe_glob (v := .ref _) rfl T.x_NoSuch.g rfl) pa_nil)))))
  pss_nil)
  (pss_cons (ps_if (pt_cmpR op_eq (pv 0) pe_int (nomark _)) (pss_one (ps_ret (pe_callB call_errIs (by rfl) T.z_isinstance bt_isinstance (pa_cons (pv 1) (pa_cons (pe_glob (v := .ref _) rfl T.x_Taken.g rfl) pa_nil)))))
  pss_nil)
  (pss_cons (ps_if (pt_cmpR op_eq (pv 0) pe_int (nomark _)) (pss_one (ps_ret (pe_callB call_errIs (by rfl) T.z_isinstance bt_isinstance (pa_cons (pv 1) (pa_cons (pe_glob (v := .ref _) rfl T.x_NoPlan.g rfl) pa_nil)))))
  pss_nil)
  (pss_one (ps_ret pe_bl))))))))))))))))))), ?_⟩
    match n, hn, k with
    | 0, hn, k =>
      refine ⟨_, rfl, rfl, _, rfl, ifT rfl ?_⟩
      exact ⟨_, rfl, a, T.C m, fs, .ref (T.C 0), .ref (T.C 0), _, rfl, .inl ⟨d, ha, hd⟩, T.ec m hm, fun _ r => r, Z.own m 0 hm hn, k⟩
    | 1, hn, k =>
      refine ⟨_, rfl, rfl, _, rfl, ifF rfl ?_⟩
      refine ⟨_, rfl, rfl, _, rfl, ifT rfl ?_⟩
      exact ⟨_, rfl, a, T.C m, fs, .ref (T.C 1), .ref (T.C 1), _, rfl, .inl ⟨d, ha, hd⟩, T.ec m hm, fun _ r => r, Z.own m 1 hm hn, k⟩
    | 2, hn, k =>
      refine ⟨_, rfl, rfl, _, rfl, ifF rfl ?_⟩
      refine ⟨_, rfl, rfl, _, rfl, ifF rfl ?_⟩
      refine ⟨_, rfl, rfl, _, rfl, ifT rfl ?_⟩
      exact ⟨_, rfl, a, T.C m, fs, .ref (T.C 2), .ref (T.C 2), _, rfl, .inl ⟨d, ha, hd⟩, T.ec m hm, fun _ r => r, Z.own m 2 hm hn, k⟩
    | 3, hn, k =>
      refine ⟨_, rfl, rfl, _, rfl, ifF rfl ?_⟩
      refine ⟨_, rfl, rfl, _, rfl, ifF rfl ?_⟩
      refine ⟨_, rfl, rfl, _, rfl, ifF rfl ?_⟩
      refine ⟨_, rfl, rfl, _, rfl, ifT rfl ?_⟩
      exact ⟨_, rfl, a, T.C m, fs, .ref (T.C 3), .ref (T.C 3), _, rfl, .inl ⟨d, ha, hd⟩, T.ec m hm, fun _ r => r, Z.own m 3 hm hn, k⟩
    | 4, hn, k =>
      refine ⟨_, rfl, rfl, _, rfl, ifF rfl ?_⟩
      refine ⟨_, rfl, rfl, _, rfl, ifF rfl ?_⟩
      refine ⟨_, rfl, rfl, _, rfl, ifF rfl ?_⟩
      refine ⟨_, rfl, rfl, _, rfl, ifF rfl ?_⟩
      refine ⟨_, rfl, rfl, _, rfl, ifT rfl ?_⟩
      exact ⟨_, rfl, a, T.C m, fs, .ref (T.C 4), .ref (T.C 4), _, rfl, .inl ⟨d, ha, hd⟩, T.ec m hm, fun _ r => r, Z.own m 4 hm hn, k⟩
    | 5, hn, k =>
      refine ⟨_, rfl, rfl, _, rfl, ifF rfl ?_⟩
      refine ⟨_, rfl, rfl, _, rfl, ifF rfl ?_⟩
      refine ⟨_, rfl, rfl, _, rfl, ifF rfl ?_⟩
      refine ⟨_, rfl, rfl, _, rfl, ifF rfl ?_⟩
      refine ⟨_, rfl, rfl, _, rfl, ifF rfl ?_⟩
      refine ⟨_, rfl, rfl, _, rfl, ifT rfl ?_⟩
      exact ⟨_, rfl, a, T.C m, fs, .ref (T.C 5), .ref (T.C 5), _, rfl, .inl ⟨d, ha, hd⟩, T.ec m hm, fun _ r => r, Z.own m 5 hm hn, k⟩
    | 6, hn, k =>
      refine ⟨_, rfl, rfl, _, rfl, ifF rfl ?_⟩
      refine ⟨_, rfl, rfl, _, rfl, ifF rfl ?_⟩
      refine ⟨_, rfl, rfl, _, rfl, ifF rfl ?_⟩
      refine ⟨_, rfl, rfl, _, rfl, ifF rfl ?_⟩
      refine ⟨_, rfl, rfl, _, rfl, ifF rfl ?_⟩
      refine ⟨_, rfl, rfl, _, rfl, ifF rfl ?_⟩
      refine ⟨_, rfl, rfl, _, rfl, ifT rfl ?_⟩
      exact ⟨_, rfl, a, T.C m, fs, .ref (T.C 6), .ref (T.C 6), _, rfl, .inl ⟨d, ha, hd⟩, T.ec m hm, fun _ r => r, Z.own m 6 hm hn, k⟩
    | 7, hn, k =>
      refine ⟨_, rfl, rfl, _, rfl, ifF rfl ?_⟩
      refine ⟨_, rfl, rfl, _, rfl, ifF rfl ?_⟩
      refine ⟨_, rfl, rfl, _, rfl, ifF rfl ?_⟩
      refine ⟨_, rfl, rfl, _, rfl, ifF rfl ?_⟩
      refine ⟨_, rfl, rfl, _, rfl, ifF rfl ?_⟩
      refine ⟨_, rfl, rfl, _, rfl, ifF rfl ?_⟩
      refine ⟨_, rfl, rfl, _, rfl, ifF rfl ?_⟩
      refine ⟨_, rfl, rfl, _, rfl, ifT rfl ?_⟩
      exact ⟨_, rfl, a, T.C m, fs, .ref (T.C 7), .ref (T.C 7), _, rfl, .inl ⟨d, ha, hd⟩, T.ec m hm, fun _ r => r, Z.own m 7 hm hn, k⟩
    | 8, hn, k =>
      refine ⟨_, rfl, rfl, _, rfl, ifF rfl ?_⟩
      refine ⟨_, rfl, rfl, _, rfl, ifF rfl ?_⟩
      refine ⟨_, rfl, rfl, _, rfl, ifF rfl ?_⟩
      refine ⟨_, rfl, rfl, _, rfl, ifF rfl ?_⟩
      refine ⟨_, rfl, rfl, _, rfl, ifF rfl ?_⟩
      refine ⟨_, rfl, rfl, _, rfl, ifF rfl ?_⟩
      refine ⟨_, rfl, rfl, _, rfl, ifF rfl ?_⟩
      refine ⟨_, rfl, rfl, _, rfl, ifF rfl ?_⟩
      refine ⟨_, rfl, rfl, _, rfl, ifT rfl ?_⟩
      exact ⟨_, rfl, a, T.C m, fs, .ref (T.C 8), .ref (T.C 8), _, rfl, .inl ⟨d, ha, hd⟩, T.ec m hm, fun _ r => r, Z.own m 8 hm hn, k⟩
    | 9, hn, k =>
      refine ⟨_, rfl, rfl, _, rfl, ifF rfl ?_⟩
      refine ⟨_, rfl, rfl, _, rfl, ifF rfl ?_⟩
      refine ⟨_, rfl, rfl, _, rfl, ifF rfl ?_⟩
      refine ⟨_, rfl, rfl, _, rfl, ifF rfl ?_⟩
      refine ⟨_, rfl, rfl, _, rfl, ifF rfl ?_⟩
      refine ⟨_, rfl, rfl, _, rfl, ifF rfl ?_⟩
      refine ⟨_, rfl, rfl, _, rfl, ifF rfl ?_⟩
      refine ⟨_, rfl, rfl, _, rfl, ifF rfl ?_⟩
      refine ⟨_, rfl, rfl, _, rfl, ifF rfl ?_⟩
      refine ⟨_, rfl, rfl, _, rfl, ifT rfl ?_⟩
      exact ⟨_, rfl, a, T.C m, fs, .ref (T.C 9), .ref (T.C 9), _, rfl, .inl ⟨d, ha, hd⟩, T.ec m hm, fun _ r => r, Z.own m 9 hm hn, k⟩
    | 10, hn, k =>
      refine ⟨_, rfl, rfl, _, rfl, ifF rfl ?_⟩
      refine ⟨_, rfl, rfl, _, rfl, ifF rfl ?_⟩
      refine ⟨_, rfl, rfl, _, rfl, ifF rfl ?_⟩
      refine ⟨_, rfl, rfl, _, rfl, ifF rfl ?_⟩
      refine ⟨_, rfl, rfl, _, rfl, ifF rfl ?_⟩
      refine ⟨_, rfl, rfl, _, rfl, ifF rfl ?_⟩
      refine ⟨_, rfl, rfl, _, rfl, ifF rfl ?_⟩
      refine ⟨_, rfl, rfl, _, rfl, ifF rfl ?_⟩
      refine ⟨_, rfl, rfl, _, rfl, ifF rfl ?_⟩
      refine ⟨_, rfl, rfl, _, rfl, ifF rfl ?_⟩
      refine ⟨_, rfl, rfl, _, rfl, ifT rfl ?_⟩
      exact ⟨_, rfl, a, T.C m, fs, .ref (T.C 10), .ref (T.C 10), _, rfl, .inl ⟨d, ha, hd⟩, T.ec m hm, fun _ r => r, Z.own m 10 hm hn, k⟩
    | 11, hn, k =>
      refine ⟨_, rfl, rfl, _, rfl, ifF rfl ?_⟩
      refine ⟨_, rfl, rfl, _, rfl, ifF rfl ?_⟩
      refine ⟨_, rfl, rfl, _, rfl, ifF rfl ?_⟩
      refine ⟨_, rfl, rfl, _, rfl, ifF rfl ?_⟩
      refine ⟨_, rfl, rfl, _, rfl, ifF rfl ?_⟩
      refine ⟨_, rfl, rfl, _, rfl, ifF rfl ?_⟩
      refine ⟨_, rfl, rfl, _, rfl, ifF rfl ?_⟩
      refine ⟨_, rfl, rfl, _, rfl, ifF rfl ?_⟩
      refine ⟨_, rfl, rfl, _, rfl, ifF rfl ?_⟩
      refine ⟨_, rfl, rfl, _, rfl, ifF rfl ?_⟩
      refine ⟨_, rfl, rfl, _, rfl, ifF rfl ?_⟩
      refine ⟨_, rfl, rfl, _, rfl, ifT rfl ?_⟩
      exact ⟨_, rfl, a, T.C m, fs, .ref (T.C 11), .ref (T.C 11), _, rfl, .inl ⟨d, ha, hd⟩, T.ec m hm, fun _ r => r, Z.own m 11 hm hn, k⟩
    | 12, hn, k =>
      refine ⟨_, rfl, rfl, _, rfl, ifF rfl ?_⟩
      refine ⟨_, rfl, rfl, _, rfl, ifF rfl ?_⟩
      refine ⟨_, rfl, rfl, _, rfl, ifF rfl ?_⟩
      refine ⟨_, rfl, rfl, _, rfl, ifF rfl ?_⟩
      refine ⟨_, rfl, rfl, _, rfl, ifF rfl ?_⟩
      refine ⟨_, rfl, rfl, _, rfl, ifF rfl ?_⟩
      refine ⟨_, rfl, rfl, _, rfl, ifF rfl ?_⟩
      refine ⟨_, rfl, rfl, _, rfl, ifF rfl ?_⟩
      refine ⟨_, rfl, rfl, _, rfl, ifF rfl ?_⟩
      refine ⟨_, rfl, rfl, _, rfl, ifF rfl ?_⟩
      refine ⟨_, rfl, rfl, _, rfl, ifF rfl ?_⟩
      refine ⟨_, rfl, rfl, _, rfl, ifF rfl ?_⟩
      refine ⟨_, rfl, rfl, _, rfl, ifT rfl ?_⟩
      exact ⟨_, rfl, a, T.C m, fs, .ref (T.C 12), .ref (T.C 12), _, rfl, .inl ⟨d, ha, hd⟩, T.ec m hm, fun _ r => r, Z.own m 12 hm hn, k⟩
    | 13, hn, k =>
      refine ⟨_, rfl, rfl, _, rfl, ifF rfl ?_⟩
      refine ⟨_, rfl, rfl, _, rfl, ifF rfl ?_⟩
      refine ⟨_, rfl, rfl, _, rfl, ifF rfl ?_⟩
      refine ⟨_, rfl, rfl, _, rfl, ifF rfl ?_⟩
      refine ⟨_, rfl, rfl, _, rfl, ifF rfl ?_⟩
      refine ⟨_, rfl, rfl, _, rfl, ifF rfl ?_⟩
      refine ⟨_, rfl, rfl, _, rfl, ifF rfl ?_⟩
      refine ⟨_, rfl, rfl, _, rfl, ifF rfl ?_⟩
      refine ⟨_, rfl, rfl, _, rfl, ifF rfl ?_⟩
      refine ⟨_, rfl, rfl, _, rfl, ifF rfl ?_⟩
      refine ⟨_, rfl, rfl, _, rfl, ifF rfl ?_⟩
      refine ⟨_, rfl, rfl, _, rfl, ifF rfl ?_⟩
      refine ⟨_, rfl, rfl, _, rfl, ifF rfl ?_⟩
      refine ⟨_, rfl, rfl, _, rfl, ifT rfl ?_⟩
      exact ⟨_, rfl, a, T.C m, fs, .ref (T.C 13), .ref (T.C 13), _, rfl, .inl ⟨d, ha, hd⟩, T.ec m hm, fun _ r => r, Z.own m 13 hm hn, k⟩
    | 14, hn, k =>
      refine ⟨_, rfl, rfl, _, rfl, ifF rfl ?_⟩
      refine ⟨_, rfl, rfl, _, rfl, ifF rfl ?_⟩
      refine ⟨_, rfl, rfl, _, rfl, ifF rfl ?_⟩
      refine ⟨_, rfl, rfl, _, rfl, ifF rfl ?_⟩
      refine ⟨_, rfl, rfl, _, rfl, ifF rfl ?_⟩
      refine ⟨_, rfl, rfl, _, rfl, ifF rfl ?_⟩
      refine ⟨_, rfl, rfl, _, rfl, ifF rfl ?_⟩
      refine ⟨_, rfl, rfl, _, rfl, ifF rfl ?_⟩
      refine ⟨_, rfl, rfl, _, rfl, ifF rfl ?_⟩
      refine ⟨_, rfl, rfl, _, rfl, ifF rfl ?_⟩
      refine ⟨_, rfl, rfl, _, rfl, ifF rfl ?_⟩
      refine ⟨_, rfl, rfl, _, rfl, ifF rfl ?_⟩
      refine ⟨_, rfl, rfl, _, rfl, ifF rfl ?_⟩
      refine ⟨_, rfl, rfl, _, rfl, ifF rfl ?_⟩
      refine ⟨_, rfl, rfl, _, rfl, ifT rfl ?_⟩
      exact ⟨_, rfl, a, T.C m, fs, .ref (T.C 14), .ref (T.C 14), _, rfl, .inl ⟨d, ha, hd⟩, T.ec m hm, fun _ r => r, Z.own m 14 hm hn, k⟩
    | 15, hn, k =>
      refine ⟨_, rfl, rfl, _, rfl, ifF rfl ?_⟩
      refine ⟨_, rfl, rfl, _, rfl, ifF rfl ?_⟩
      refine ⟨_, rfl, rfl, _, rfl, ifF rfl ?_⟩
      refine ⟨_, rfl, rfl, _, rfl, ifF rfl ?_⟩
      refine ⟨_, rfl, rfl, _, rfl, ifF rfl ?_⟩
      refine ⟨_, rfl, rfl, _, rfl, ifF rfl ?_⟩
      refine ⟨_, rfl, rfl, _, rfl, ifF rfl ?_⟩
      refine ⟨_, rfl, rfl, _, rfl, ifF rfl ?_⟩
      refine ⟨_, rfl, rfl, _, rfl, ifF rfl ?_⟩
      refine ⟨_, rfl, rfl, _, rfl, ifF rfl ?_⟩
      refine ⟨_, rfl, rfl, _, rfl, ifF rfl ?_⟩
      refine ⟨_, rfl, rfl, _, rfl, ifF rfl ?_⟩
      refine ⟨_, rfl, rfl, _, rfl, ifF rfl ?_⟩
      refine ⟨_, rfl, rfl, _, rfl, ifF rfl ?_⟩
      refine ⟨_, rfl, rfl, _, rfl, ifF rfl ?_⟩
      refine ⟨_, rfl, rfl, _, rfl, ifT rfl ?_⟩
      exact ⟨_, rfl, a, T.C m, fs, .ref (T.C 15), .ref (T.C 15), _, rfl, .inl ⟨d, ha, hd⟩, T.ec m hm, fun _ r => r, Z.own m 15 hm hn, k⟩
    | 16, hn, k =>
      refine ⟨_, rfl, rfl, _, rfl, ifF rfl ?_⟩
      refine ⟨_, rfl, rfl, _, rfl, ifF rfl ?_⟩
      refine ⟨_, rfl, rfl, _, rfl, ifF rfl ?_⟩
      refine ⟨_, rfl, rfl, _, rfl, ifF rfl ?_⟩
      refine ⟨_, rfl, rfl, _, rfl, ifF rfl ?_⟩
      refine ⟨_, rfl, rfl, _, rfl, ifF rfl ?_⟩
      refine ⟨_, rfl, rfl, _, rfl, ifF rfl ?_⟩
      refine ⟨_, rfl, rfl, _, rfl, ifF rfl ?_⟩
      refine ⟨_, rfl, rfl, _, rfl, ifF rfl ?_⟩
      refine ⟨_, rfl, rfl, _, rfl, ifF rfl ?_⟩
      refine ⟨_, rfl, rfl, _, rfl, ifF rfl ?_⟩
      refine ⟨_, rfl, rfl, _, rfl, ifF rfl ?_⟩
      refine ⟨_, rfl, rfl, _, rfl, ifF rfl ?_⟩
      refine ⟨_, rfl, rfl, _, rfl, ifF rfl ?_⟩
      refine ⟨_, rfl, rfl, _, rfl, ifF rfl ?_⟩
      refine ⟨_, rfl, rfl, _, rfl, ifF rfl ?_⟩
      refine ⟨_, rfl, rfl, _, rfl, ifT rfl ?_⟩
      exact ⟨_, rfl, a, T.C m, fs, .ref (T.C 16), .ref (T.C 16), _, rfl, .inl ⟨d, ha, hd⟩, T.ec m hm, fun _ r => r, Z.own m 16 hm hn, k⟩
    | n + 17, h, _ => exact absurd h (by omega)
theorem ok_isP (T : Txt K mg) (Z : Kit T) : FnP P w K mg base 1 T.d_law_is.f T.d_law_is.fd ["number", "error"] (spIsP T) := by
  refine fn_ofP T.d_law_is.F sc_law_is (fun a c d vs H Q E h => ?_) (fun cdv A outer s H vs Q p cls od hr hz hf h => ?_)
  · obtain ⟨n, m, d, fs, rfl, _⟩ := h
    rfl
  · obtain ⟨a, oe⟩ := p
    obtain ⟨n, m, d, fs, rfl, hn, hm, rfl, rfl, hd, k⟩ := h
    refine ⟨_, (pss_cons (ps_if (pt_cmpR op_eq (pv 0) pe_int (nomark _)) (pss_one (ps_ret (pe_callB call_errIs (by rfl) T.z_isinstance bt_isinstance (pa_cons (pv 1) (pa_cons (pe_glob (v := .ref _) rfl T.x_BadName.g rfl) pa_nil)))))
  pss_nil)
  (pss_cons (ps_if (pt_cmpR op_eq (pv 0) pe_int (nomark _)) (pss_one (ps_ret (pe_callB call_errIs (by rfl) T.z_isinstance bt_isinstance (pa_cons (pv 1) (pa_cons (pe_glob (v := .ref _) rfl T.x_BadHands.g rfl) pa_nil)))))
  pss_nil)
  (pss_cons (ps_if (pt_cmpR op_eq (pv 0) pe_int (nomark _)) (pss_one (ps_ret (pe_callB call_errIs (by rfl) T.z_isinstance bt_isinstance (pa_cons (pv 1) (pa_cons (pe_glob (v := .ref _) rfl T.x_BadCalendar.g rfl) pa_nil)))))
  pss_nil)
  (pss_cons (ps_if (pt_cmpR op_eq (pv 0) pe_int (nomark _)) (pss_one (ps_ret (pe_callB call_errIs (by rfl) T.z_isinstance bt_isinstance (pa_cons (pv 1) (pa_cons (pe_glob (v := .ref _) rfl T.x_BadSheet.g rfl) pa_nil)))))
  pss_nil)
  (pss_cons (ps_if (pt_cmpR op_eq (pv 0) pe_int (nomark _)) (pss_one (ps_ret (pe_callB call_errIs (by rfl) T.z_isinstance bt_isinstance (pa_cons (pv 1) (pa_cons (pe_glob (v := .ref _) rfl T.x_BadPlan.g rfl) pa_nil)))))
  pss_nil)
  (pss_cons (ps_if (pt_cmpR op_eq (pv 0) pe_int (nomark _)) (pss_one (ps_ret (pe_callB call_errIs (by rfl) T.z_isinstance bt_isinstance (pa_cons (pv 1) (pa_cons (pe_glob (v := .ref _) rfl T.x_BadLadders.g rfl) pa_nil)))))
  pss_nil)
  (pss_cons (ps_if (pt_cmpR op_eq (pv 0) pe_int (nomark _)) (pss_one (ps_ret (pe_callB call_errIs (by rfl) T.z_isinstance bt_isinstance (pa_cons (pv 1) (pa_cons (pe_glob (v := .ref _) rfl T.x_BadHouse.g rfl) pa_nil)))))
  pss_nil)
  (pss_cons (ps_if (pt_cmpR op_eq (pv 0) pe_int (nomark _)) (pss_one (ps_ret (pe_callB call_errIs (by rfl) T.z_isinstance bt_isinstance (pa_cons (pv 1) (pa_cons (pe_glob (v := .ref _) rfl T.x_BadBare.g rfl) pa_nil)))))
  pss_nil)
  (pss_cons (ps_if (pt_cmpR op_eq (pv 0) pe_int (nomark _)) (pss_one (ps_ret (pe_callB call_errIs (by rfl) T.z_isinstance bt_isinstance (pa_cons (pv 1) (pa_cons (pe_glob (v := .ref _) rfl T.x_BadJobs.g rfl) pa_nil)))))
  pss_nil)
  (pss_cons (ps_if (pt_cmpR op_eq (pv 0) pe_int (nomark _)) (pss_one (ps_ret (pe_callB call_errIs (by rfl) T.z_isinstance bt_isinstance (pa_cons (pv 1) (pa_cons (pe_glob (v := .ref _) rfl T.x_BadJournal.g rfl) pa_nil)))))
  pss_nil)
  (pss_cons (ps_if (pt_cmpR op_eq (pv 0) pe_int (nomark _)) (pss_one (ps_ret (pe_callB call_errIs (by rfl) T.z_isinstance bt_isinstance (pa_cons (pv 1) (pa_cons (pe_glob (v := .ref _) rfl T.x_BadClaim.g rfl) pa_nil)))))
  pss_nil)
  (pss_cons (ps_if (pt_cmpR op_eq (pv 0) pe_int (nomark _)) (pss_one (ps_ret (pe_callB call_errIs (by rfl) T.z_isinstance bt_isinstance (pa_cons (pv 1) (pa_cons (pe_glob (v := .ref _) rfl T.x_BadStep.g rfl) pa_nil)))))
  pss_nil)
  (pss_cons (ps_if (pt_cmpR op_eq (pv 0) pe_int (nomark _)) (pss_one (ps_ret (pe_callB call_errIs (by rfl) T.z_isinstance bt_isinstance (pa_cons (pv 1) (pa_cons (pe_glob (v := .ref _) rfl T.x_BadText.g rfl) pa_nil)))))
  pss_nil)
  (pss_cons (ps_if (pt_cmpR op_eq (pv 0) pe_int (nomark _)) (pss_one (ps_ret (pe_callB call_errIs (by rfl) T.z_isinstance bt_isinstance (pa_cons (pv 1) (pa_cons (pe_glob (v := .ref _) rfl T.x_BadCommand.g rfl) pa_nil)))))
  pss_nil)
  (pss_cons (ps_if (pt_cmpR op_eq (pv 0) pe_int (nomark _)) (pss_one (ps_ret (pe_callB call_errIs (by rfl) T.z_isinstance bt_isinstance (pa_cons (pv 1) (pa_cons (pe_glob (v := .ref _) rfl T.x_NoSuch.g rfl) pa_nil)))))
  pss_nil)
  (pss_cons (ps_if (pt_cmpR op_eq (pv 0) pe_int (nomark _)) (pss_one (ps_ret (pe_callB call_errIs (by rfl) T.z_isinstance bt_isinstance (pa_cons (pv 1) (pa_cons (pe_glob (v := .ref _) rfl T.x_Taken.g rfl) pa_nil)))))
  pss_nil)
  (pss_cons (ps_if (pt_cmpR op_eq (pv 0) pe_int (nomark _)) (pss_one (ps_ret (pe_callB call_errIs (by rfl) T.z_isinstance bt_isinstance (pa_cons (pv 1) (pa_cons (pe_glob (v := .ref _) rfl T.x_NoPlan.g rfl) pa_nil)))))
  pss_nil)
  (pss_one (ps_ret pe_bl))))))))))))))))))), ?_⟩
    match n, hn, k with
    | 0, hn, k =>
      refine ⟨_, rfl, rfl, _, rfl, ifT rfl ?_⟩
      exact ⟨_, rfl, a, T.C m, fs, .ref (T.C 0), .ref (T.C 0), _, rfl, .inr ⟨oe, d, List.mem_singleton.mpr rfl, hz, hf, hd⟩, T.ec m hm, fun _ r => r, Z.own m 0 hm hn, k⟩
    | 1, hn, k =>
      refine ⟨_, rfl, rfl, _, rfl, ifF rfl ?_⟩
      refine ⟨_, rfl, rfl, _, rfl, ifT rfl ?_⟩
      exact ⟨_, rfl, a, T.C m, fs, .ref (T.C 1), .ref (T.C 1), _, rfl, .inr ⟨oe, d, List.mem_singleton.mpr rfl, hz, hf, hd⟩, T.ec m hm, fun _ r => r, Z.own m 1 hm hn, k⟩
    | 2, hn, k =>
      refine ⟨_, rfl, rfl, _, rfl, ifF rfl ?_⟩
      refine ⟨_, rfl, rfl, _, rfl, ifF rfl ?_⟩
      refine ⟨_, rfl, rfl, _, rfl, ifT rfl ?_⟩
      exact ⟨_, rfl, a, T.C m, fs, .ref (T.C 2), .ref (T.C 2), _, rfl, .inr ⟨oe, d, List.mem_singleton.mpr rfl, hz, hf, hd⟩, T.ec m hm, fun _ r => r, Z.own m 2 hm hn, k⟩
    | 3, hn, k =>
      refine ⟨_, rfl, rfl, _, rfl, ifF rfl ?_⟩
      refine ⟨_, rfl, rfl, _, rfl, ifF rfl ?_⟩
      refine ⟨_, rfl, rfl, _, rfl, ifF rfl ?_⟩
      refine ⟨_, rfl, rfl, _, rfl, ifT rfl ?_⟩
      exact ⟨_, rfl, a, T.C m, fs, .ref (T.C 3), .ref (T.C 3), _, rfl, .inr ⟨oe, d, List.mem_singleton.mpr rfl, hz, hf, hd⟩, T.ec m hm, fun _ r => r, Z.own m 3 hm hn, k⟩
    | 4, hn, k =>
      refine ⟨_, rfl, rfl, _, rfl, ifF rfl ?_⟩
      refine ⟨_, rfl, rfl, _, rfl, ifF rfl ?_⟩
      refine ⟨_, rfl, rfl, _, rfl, ifF rfl ?_⟩
      refine ⟨_, rfl, rfl, _, rfl, ifF rfl ?_⟩
      refine ⟨_, rfl, rfl, _, rfl, ifT rfl ?_⟩
      exact ⟨_, rfl, a, T.C m, fs, .ref (T.C 4), .ref (T.C 4), _, rfl, .inr ⟨oe, d, List.mem_singleton.mpr rfl, hz, hf, hd⟩, T.ec m hm, fun _ r => r, Z.own m 4 hm hn, k⟩
    | 5, hn, k =>
      refine ⟨_, rfl, rfl, _, rfl, ifF rfl ?_⟩
      refine ⟨_, rfl, rfl, _, rfl, ifF rfl ?_⟩
      refine ⟨_, rfl, rfl, _, rfl, ifF rfl ?_⟩
      refine ⟨_, rfl, rfl, _, rfl, ifF rfl ?_⟩
      refine ⟨_, rfl, rfl, _, rfl, ifF rfl ?_⟩
      refine ⟨_, rfl, rfl, _, rfl, ifT rfl ?_⟩
      exact ⟨_, rfl, a, T.C m, fs, .ref (T.C 5), .ref (T.C 5), _, rfl, .inr ⟨oe, d, List.mem_singleton.mpr rfl, hz, hf, hd⟩, T.ec m hm, fun _ r => r, Z.own m 5 hm hn, k⟩
    | 6, hn, k =>
      refine ⟨_, rfl, rfl, _, rfl, ifF rfl ?_⟩
      refine ⟨_, rfl, rfl, _, rfl, ifF rfl ?_⟩
      refine ⟨_, rfl, rfl, _, rfl, ifF rfl ?_⟩
      refine ⟨_, rfl, rfl, _, rfl, ifF rfl ?_⟩
      refine ⟨_, rfl, rfl, _, rfl, ifF rfl ?_⟩
      refine ⟨_, rfl, rfl, _, rfl, ifF rfl ?_⟩
      refine ⟨_, rfl, rfl, _, rfl, ifT rfl ?_⟩
      exact ⟨_, rfl, a, T.C m, fs, .ref (T.C 6), .ref (T.C 6), _, rfl, .inr ⟨oe, d, List.mem_singleton.mpr rfl, hz, hf, hd⟩, T.ec m hm, fun _ r => r, Z.own m 6 hm hn, k⟩
    | 7, hn, k =>
      refine ⟨_, rfl, rfl, _, rfl, ifF rfl ?_⟩
      refine ⟨_, rfl, rfl, _, rfl, ifF rfl ?_⟩
      refine ⟨_, rfl, rfl, _, rfl, ifF rfl ?_⟩
      refine ⟨_, rfl, rfl, _, rfl, ifF rfl ?_⟩
      refine ⟨_, rfl, rfl, _, rfl, ifF rfl ?_⟩
      refine ⟨_, rfl, rfl, _, rfl, ifF rfl ?_⟩
      refine ⟨_, rfl, rfl, _, rfl, ifF rfl ?_⟩
      refine ⟨_, rfl, rfl, _, rfl, ifT rfl ?_⟩
      exact ⟨_, rfl, a, T.C m, fs, .ref (T.C 7), .ref (T.C 7), _, rfl, .inr ⟨oe, d, List.mem_singleton.mpr rfl, hz, hf, hd⟩, T.ec m hm, fun _ r => r, Z.own m 7 hm hn, k⟩
    | 8, hn, k =>
      refine ⟨_, rfl, rfl, _, rfl, ifF rfl ?_⟩
      refine ⟨_, rfl, rfl, _, rfl, ifF rfl ?_⟩
      refine ⟨_, rfl, rfl, _, rfl, ifF rfl ?_⟩
      refine ⟨_, rfl, rfl, _, rfl, ifF rfl ?_⟩
      refine ⟨_, rfl, rfl, _, rfl, ifF rfl ?_⟩
      refine ⟨_, rfl, rfl, _, rfl, ifF rfl ?_⟩
      refine ⟨_, rfl, rfl, _, rfl, ifF rfl ?_⟩
      refine ⟨_, rfl, rfl, _, rfl, ifF rfl ?_⟩
      refine ⟨_, rfl, rfl, _, rfl, ifT rfl ?_⟩
      exact ⟨_, rfl, a, T.C m, fs, .ref (T.C 8), .ref (T.C 8), _, rfl, .inr ⟨oe, d, List.mem_singleton.mpr rfl, hz, hf, hd⟩, T.ec m hm, fun _ r => r, Z.own m 8 hm hn, k⟩
    | 9, hn, k =>
      refine ⟨_, rfl, rfl, _, rfl, ifF rfl ?_⟩
      refine ⟨_, rfl, rfl, _, rfl, ifF rfl ?_⟩
      refine ⟨_, rfl, rfl, _, rfl, ifF rfl ?_⟩
      refine ⟨_, rfl, rfl, _, rfl, ifF rfl ?_⟩
      refine ⟨_, rfl, rfl, _, rfl, ifF rfl ?_⟩
      refine ⟨_, rfl, rfl, _, rfl, ifF rfl ?_⟩
      refine ⟨_, rfl, rfl, _, rfl, ifF rfl ?_⟩
      refine ⟨_, rfl, rfl, _, rfl, ifF rfl ?_⟩
      refine ⟨_, rfl, rfl, _, rfl, ifF rfl ?_⟩
      refine ⟨_, rfl, rfl, _, rfl, ifT rfl ?_⟩
      exact ⟨_, rfl, a, T.C m, fs, .ref (T.C 9), .ref (T.C 9), _, rfl, .inr ⟨oe, d, List.mem_singleton.mpr rfl, hz, hf, hd⟩, T.ec m hm, fun _ r => r, Z.own m 9 hm hn, k⟩
    | 10, hn, k =>
      refine ⟨_, rfl, rfl, _, rfl, ifF rfl ?_⟩
      refine ⟨_, rfl, rfl, _, rfl, ifF rfl ?_⟩
      refine ⟨_, rfl, rfl, _, rfl, ifF rfl ?_⟩
      refine ⟨_, rfl, rfl, _, rfl, ifF rfl ?_⟩
      refine ⟨_, rfl, rfl, _, rfl, ifF rfl ?_⟩
      refine ⟨_, rfl, rfl, _, rfl, ifF rfl ?_⟩
      refine ⟨_, rfl, rfl, _, rfl, ifF rfl ?_⟩
      refine ⟨_, rfl, rfl, _, rfl, ifF rfl ?_⟩
      refine ⟨_, rfl, rfl, _, rfl, ifF rfl ?_⟩
      refine ⟨_, rfl, rfl, _, rfl, ifF rfl ?_⟩
      refine ⟨_, rfl, rfl, _, rfl, ifT rfl ?_⟩
      exact ⟨_, rfl, a, T.C m, fs, .ref (T.C 10), .ref (T.C 10), _, rfl, .inr ⟨oe, d, List.mem_singleton.mpr rfl, hz, hf, hd⟩, T.ec m hm, fun _ r => r, Z.own m 10 hm hn, k⟩
    | 11, hn, k =>
      refine ⟨_, rfl, rfl, _, rfl, ifF rfl ?_⟩
      refine ⟨_, rfl, rfl, _, rfl, ifF rfl ?_⟩
      refine ⟨_, rfl, rfl, _, rfl, ifF rfl ?_⟩
      refine ⟨_, rfl, rfl, _, rfl, ifF rfl ?_⟩
      refine ⟨_, rfl, rfl, _, rfl, ifF rfl ?_⟩
      refine ⟨_, rfl, rfl, _, rfl, ifF rfl ?_⟩
      refine ⟨_, rfl, rfl, _, rfl, ifF rfl ?_⟩
      refine ⟨_, rfl, rfl, _, rfl, ifF rfl ?_⟩
      refine ⟨_, rfl, rfl, _, rfl, ifF rfl ?_⟩
      refine ⟨_, rfl, rfl, _, rfl, ifF rfl ?_⟩
      refine ⟨_, rfl, rfl, _, rfl, ifF rfl ?_⟩
      refine ⟨_, rfl, rfl, _, rfl, ifT rfl ?_⟩
      exact ⟨_, rfl, a, T.C m, fs, .ref (T.C 11), .ref (T.C 11), _, rfl, .inr ⟨oe, d, List.mem_singleton.mpr rfl, hz, hf, hd⟩, T.ec m hm, fun _ r => r, Z.own m 11 hm hn, k⟩
    | 12, hn, k =>
      refine ⟨_, rfl, rfl, _, rfl, ifF rfl ?_⟩
      refine ⟨_, rfl, rfl, _, rfl, ifF rfl ?_⟩
      refine ⟨_, rfl, rfl, _, rfl, ifF rfl ?_⟩
      refine ⟨_, rfl, rfl, _, rfl, ifF rfl ?_⟩
      refine ⟨_, rfl, rfl, _, rfl, ifF rfl ?_⟩
      refine ⟨_, rfl, rfl, _, rfl, ifF rfl ?_⟩
      refine ⟨_, rfl, rfl, _, rfl, ifF rfl ?_⟩
      refine ⟨_, rfl, rfl, _, rfl, ifF rfl ?_⟩
      refine ⟨_, rfl, rfl, _, rfl, ifF rfl ?_⟩
      refine ⟨_, rfl, rfl, _, rfl, ifF rfl ?_⟩
      refine ⟨_, rfl, rfl, _, rfl, ifF rfl ?_⟩
      refine ⟨_, rfl, rfl, _, rfl, ifF rfl ?_⟩
      refine ⟨_, rfl, rfl, _, rfl, ifT rfl ?_⟩
      exact ⟨_, rfl, a, T.C m, fs, .ref (T.C 12), .ref (T.C 12), _, rfl, .inr ⟨oe, d, List.mem_singleton.mpr rfl, hz, hf, hd⟩, T.ec m hm, fun _ r => r, Z.own m 12 hm hn, k⟩
    | 13, hn, k =>
      refine ⟨_, rfl, rfl, _, rfl, ifF rfl ?_⟩
      refine ⟨_, rfl, rfl, _, rfl, ifF rfl ?_⟩
      refine ⟨_, rfl, rfl, _, rfl, ifF rfl ?_⟩
      refine ⟨_, rfl, rfl, _, rfl, ifF rfl ?_⟩
      refine ⟨_, rfl, rfl, _, rfl, ifF rfl ?_⟩
      refine ⟨_, rfl, rfl, _, rfl, ifF rfl ?_⟩
      refine ⟨_, rfl, rfl, _, rfl, ifF rfl ?_⟩
      refine ⟨_, rfl, rfl, _, rfl, ifF rfl ?_⟩
      refine ⟨_, rfl, rfl, _, rfl, ifF rfl ?_⟩
      refine ⟨_, rfl, rfl, _, rfl, ifF rfl ?_⟩
      refine ⟨_, rfl, rfl, _, rfl, ifF rfl ?_⟩
      refine ⟨_, rfl, rfl, _, rfl, ifF rfl ?_⟩
      refine ⟨_, rfl, rfl, _, rfl, ifF rfl ?_⟩
      refine ⟨_, rfl, rfl, _, rfl, ifT rfl ?_⟩
      exact ⟨_, rfl, a, T.C m, fs, .ref (T.C 13), .ref (T.C 13), _, rfl, .inr ⟨oe, d, List.mem_singleton.mpr rfl, hz, hf, hd⟩, T.ec m hm, fun _ r => r, Z.own m 13 hm hn, k⟩
    | 14, hn, k =>
      refine ⟨_, rfl, rfl, _, rfl, ifF rfl ?_⟩
      refine ⟨_, rfl, rfl, _, rfl, ifF rfl ?_⟩
      refine ⟨_, rfl, rfl, _, rfl, ifF rfl ?_⟩
      refine ⟨_, rfl, rfl, _, rfl, ifF rfl ?_⟩
      refine ⟨_, rfl, rfl, _, rfl, ifF rfl ?_⟩
      refine ⟨_, rfl, rfl, _, rfl, ifF rfl ?_⟩
      refine ⟨_, rfl, rfl, _, rfl, ifF rfl ?_⟩
      refine ⟨_, rfl, rfl, _, rfl, ifF rfl ?_⟩
      refine ⟨_, rfl, rfl, _, rfl, ifF rfl ?_⟩
      refine ⟨_, rfl, rfl, _, rfl, ifF rfl ?_⟩
      refine ⟨_, rfl, rfl, _, rfl, ifF rfl ?_⟩
      refine ⟨_, rfl, rfl, _, rfl, ifF rfl ?_⟩
      refine ⟨_, rfl, rfl, _, rfl, ifF rfl ?_⟩
      refine ⟨_, rfl, rfl, _, rfl, ifF rfl ?_⟩
      refine ⟨_, rfl, rfl, _, rfl, ifT rfl ?_⟩
      exact ⟨_, rfl, a, T.C m, fs, .ref (T.C 14), .ref (T.C 14), _, rfl, .inr ⟨oe, d, List.mem_singleton.mpr rfl, hz, hf, hd⟩, T.ec m hm, fun _ r => r, Z.own m 14 hm hn, k⟩
    | 15, hn, k =>
      refine ⟨_, rfl, rfl, _, rfl, ifF rfl ?_⟩
      refine ⟨_, rfl, rfl, _, rfl, ifF rfl ?_⟩
      refine ⟨_, rfl, rfl, _, rfl, ifF rfl ?_⟩
      refine ⟨_, rfl, rfl, _, rfl, ifF rfl ?_⟩
      refine ⟨_, rfl, rfl, _, rfl, ifF rfl ?_⟩
      refine ⟨_, rfl, rfl, _, rfl, ifF rfl ?_⟩
      refine ⟨_, rfl, rfl, _, rfl, ifF rfl ?_⟩
      refine ⟨_, rfl, rfl, _, rfl, ifF rfl ?_⟩
      refine ⟨_, rfl, rfl, _, rfl, ifF rfl ?_⟩
      refine ⟨_, rfl, rfl, _, rfl, ifF rfl ?_⟩
      refine ⟨_, rfl, rfl, _, rfl, ifF rfl ?_⟩
      refine ⟨_, rfl, rfl, _, rfl, ifF rfl ?_⟩
      refine ⟨_, rfl, rfl, _, rfl, ifF rfl ?_⟩
      refine ⟨_, rfl, rfl, _, rfl, ifF rfl ?_⟩
      refine ⟨_, rfl, rfl, _, rfl, ifF rfl ?_⟩
      refine ⟨_, rfl, rfl, _, rfl, ifT rfl ?_⟩
      exact ⟨_, rfl, a, T.C m, fs, .ref (T.C 15), .ref (T.C 15), _, rfl, .inr ⟨oe, d, List.mem_singleton.mpr rfl, hz, hf, hd⟩, T.ec m hm, fun _ r => r, Z.own m 15 hm hn, k⟩
    | 16, hn, k =>
      refine ⟨_, rfl, rfl, _, rfl, ifF rfl ?_⟩
      refine ⟨_, rfl, rfl, _, rfl, ifF rfl ?_⟩
      refine ⟨_, rfl, rfl, _, rfl, ifF rfl ?_⟩
      refine ⟨_, rfl, rfl, _, rfl, ifF rfl ?_⟩
      refine ⟨_, rfl, rfl, _, rfl, ifF rfl ?_⟩
      refine ⟨_, rfl, rfl, _, rfl, ifF rfl ?_⟩
      refine ⟨_, rfl, rfl, _, rfl, ifF rfl ?_⟩
      refine ⟨_, rfl, rfl, _, rfl, ifF rfl ?_⟩
      refine ⟨_, rfl, rfl, _, rfl, ifF rfl ?_⟩
      refine ⟨_, rfl, rfl, _, rfl, ifF rfl ?_⟩
      refine ⟨_, rfl, rfl, _, rfl, ifF rfl ?_⟩
      refine ⟨_, rfl, rfl, _, rfl, ifF rfl ?_⟩
      refine ⟨_, rfl, rfl, _, rfl, ifF rfl ?_⟩
      refine ⟨_, rfl, rfl, _, rfl, ifF rfl ?_⟩
      refine ⟨_, rfl, rfl, _, rfl, ifF rfl ?_⟩
      refine ⟨_, rfl, rfl, _, rfl, ifF rfl ?_⟩
      refine ⟨_, rfl, rfl, _, rfl, ifT rfl ?_⟩
      exact ⟨_, rfl, a, T.C m, fs, .ref (T.C 16), .ref (T.C 16), _, rfl, .inr ⟨oe, d, List.mem_singleton.mpr rfl, hz, hf, hd⟩, T.ec m hm, fun _ r => r, Z.own m 16 hm hn, k⟩
    | n + 17, h, _ => exact absurd h (by omega)
/-! ### _law_fields -/
def spFields (T : Txt K mg) : Sp := fun vs H Q _ => ∃ (n : Nat) (a d : Addr) (x y : V), vs = [.int n, .ref a] ∧ n < 17 ∧ H a = some (exo a (T.C n) (some d)) ∧ H d = some (exd d (flds x y n)) ∧
  ∀ (p : Addr) (H' : Hp), H p = none → Ex H H' → H' p = some (.lst (ysOf x y n)) → Q (.ref p) H'
def spFieldsP (T : Txt K mg) : Addr → Value → Option Addr → Sp := fun a cls od vs H Q _ => ∃ (n : Nat) (d : Addr) (x y : V), vs = [.int n, .ref a] ∧ n < 17 ∧ cls = .ref (T.C n) ∧ od = some d ∧ H d = some (.xd (flds x y n)) ∧
  ∀ (p : Addr) (H' : Hp), H p = none → Ex H H' → H' p = some (.lst (ysOf x y n)) → Q (.ref p) H'
theorem ok_fields (T : Txt K mg) : FnOk P w K mg base CX0 1 T.d_law_fields.f T.d_law_fields.fd ["number", "error"] (spFields T) := by
  refine T.d_law_fields.F.ok sc_law_fields (fun vs H Q E h => ?_) (fun cdv A outer s H vs Q E hr h => ?_)
  · obtain ⟨n, a, d, x, y, rfl, _⟩ := h
    rfl
  · obtain ⟨n, a, d, x, y, rfl, hn, ha, hd, k⟩ := h
    refine ⟨_, (pss_cons (ps_if (pt_cmpR op_eq (pv 0) pe_int (nomark _)) (pss_one (ps_ret (pe_lst (pa_cons (pe_errF (pv 1)) pa_nil))))
  pss_nil)
  (pss_cons (ps_if (pt_cmpR op_eq (pv 0) pe_int (nomark _)) (pss_one (ps_ret (pe_lst (pa_cons (pe_errF (pv 1)) (pa_cons (pe_errF (pv 1)) pa_nil)))))
  pss_nil)
  (pss_cons (ps_if (pt_cmpR op_eq (pv 0) pe_int (nomark _)) (pss_one (ps_ret (pe_lst (pa_cons (pe_errF (pv 1)) (pa_cons (pe_errF (pv 1)) pa_nil)))))
  pss_nil)
  (pss_cons (ps_if (pt_cmpR op_eq (pv 0) pe_int (nomark _)) (pss_one (ps_ret (pe_lst (pa_cons (pe_errF (pv 1)) (pa_cons (pe_errF (pv 1)) pa_nil)))))
  pss_nil)
  (pss_cons (ps_if (pt_cmpR op_eq (pv 0) pe_int (nomark _)) (pss_one (ps_ret (pe_lst (pa_cons (pe_errF (pv 1)) (pa_cons (pe_errF (pv 1)) pa_nil)))))
  pss_nil)
  (pss_cons (ps_if (pt_cmpR op_eq (pv 0) pe_int (nomark _)) (pss_one (ps_ret (pe_lst (pa_cons (pe_errF (pv 1)) (pa_cons (pe_errF (pv 1)) pa_nil)))))
  pss_nil)
  (pss_cons (ps_if (pt_cmpR op_eq (pv 0) pe_int (nomark _)) (pss_one (ps_ret (pe_lst (pa_cons (pe_errF (pv 1)) (pa_cons (pe_errF (pv 1)) pa_nil)))))
  pss_nil)
  (pss_cons (ps_if (pt_cmpR op_eq (pv 0) pe_int (nomark _)) (pss_one (ps_ret (pe_lst (pa_cons (pe_errF (pv 1)) (pa_cons (pe_errF (pv 1)) pa_nil)))))
  pss_nil)
  (pss_cons (ps_if (pt_cmpR op_eq (pv 0) pe_int (nomark _)) (pss_one (ps_ret (pe_lst (pa_cons (pe_errF (pv 1)) (pa_cons (pe_errF (pv 1)) pa_nil)))))
  pss_nil)
  (pss_cons (ps_if (pt_cmpR op_eq (pv 0) pe_int (nomark _)) (pss_one (ps_ret (pe_lst (pa_cons (pe_errF (pv 1)) (pa_cons (pe_errF (pv 1)) pa_nil)))))
  pss_nil)
  (pss_cons (ps_if (pt_cmpR op_eq (pv 0) pe_int (nomark _)) (pss_one (ps_ret (pe_lst (pa_cons (pe_errF (pv 1)) pa_nil))))
  pss_nil)
  (pss_cons (ps_if (pt_cmpR op_eq (pv 0) pe_int (nomark _)) (pss_one (ps_ret (pe_lst (pa_cons (pe_errF (pv 1)) pa_nil))))
  pss_nil)
  (pss_cons (ps_if (pt_cmpR op_eq (pv 0) pe_int (nomark _)) (pss_one (ps_ret (pe_lst (pa_cons (pe_errF (pv 1)) (pa_cons (pe_errF (pv 1)) pa_nil)))))
  pss_nil)
  (pss_cons (ps_if (pt_cmpR op_eq (pv 0) pe_int (nomark _)) (pss_one (ps_ret (pe_lst (pa_cons (pe_errF (pv 1)) pa_nil))))
  pss_nil)
  (pss_cons (ps_if (pt_cmpR op_eq (pv 0) pe_int (nomark _)) (pss_one (ps_ret (pe_lst (pa_cons (pe_errF (pv 1)) (pa_cons (pe_errF (pv 1)) pa_nil)))))
  pss_nil)
  (pss_cons (ps_if (pt_cmpR op_eq (pv 0) pe_int (nomark _)) (pss_one (ps_ret (pe_lst (pa_cons (pe_errF (pv 1)) pa_nil))))
  pss_nil)
  (pss_cons (ps_if (pt_cmpR op_eq (pv 0) pe_int (nomark _)) (pss_one (ps_ret (pe_lst (pa_cons (pe_errF (pv 1)) pa_nil))))
  pss_nil)
  (pss_one (ps_ret pe_non))))))))))))))))))), ?_⟩
    match n, hn, k, And.intro ha hd with
    | 0, hn, k, hd =>
      refine ⟨_, rfl, rfl, _, rfl, ifT rfl ?_⟩
      refine ⟨_, rfl, a, T.C 0, _, x, rfl, .inl ⟨d, hd⟩, T.xf 0 hn, T.x_BadName.nf _ (by simp), (by show List.lookup _ [(_, x)] = _; rw [lookup_put, if_pos rfl]), ?_⟩
      exact ⟨(by show 1 ≤ sizeLine; decide), fun p hp => k p _ hp (Ex.new hp) upd_same⟩
    | 1, hn, k, hd =>
      refine ⟨_, rfl, rfl, _, rfl, ifF rfl ?_⟩
      refine ⟨_, rfl, rfl, _, rfl, ifT rfl ?_⟩
      refine ⟨_, rfl, a, T.C 1, _, x, rfl, .inl ⟨d, hd⟩, T.xf 1 hn, T.x_BadHands.nf _ (by simp), (by show List.lookup _ [(_, y), (_, x)] = _; rw [lookup_put, if_neg (by decide +kernel), lookup_put, if_pos rfl]), ?_⟩
      refine ⟨_, rfl, a, T.C 1, _, y, rfl, .inl ⟨d, hd⟩, T.xf 1 hn, T.x_BadHands.nf _ (by simp), (by show List.lookup _ [(_, y), (_, x)] = _; rw [lookup_put, if_pos rfl]), ?_⟩
      exact ⟨(by show 2 ≤ sizeLine; decide), fun p hp => k p _ hp (Ex.new hp) upd_same⟩
    | 2, hn, k, hd =>
      refine ⟨_, rfl, rfl, _, rfl, ifF rfl ?_⟩
      refine ⟨_, rfl, rfl, _, rfl, ifF rfl ?_⟩
      refine ⟨_, rfl, rfl, _, rfl, ifT rfl ?_⟩
      refine ⟨_, rfl, a, T.C 2, _, x, rfl, .inl ⟨d, hd⟩, T.xf 2 hn, T.x_BadCalendar.nf _ (by simp), (by show List.lookup _ [(_, y), (_, x)] = _; rw [lookup_put, if_neg (by decide +kernel), lookup_put, if_pos rfl]), ?_⟩
      refine ⟨_, rfl, a, T.C 2, _, y, rfl, .inl ⟨d, hd⟩, T.xf 2 hn, T.x_BadCalendar.nf _ (by simp), (by show List.lookup _ [(_, y), (_, x)] = _; rw [lookup_put, if_pos rfl]), ?_⟩
      exact ⟨(by show 2 ≤ sizeLine; decide), fun p hp => k p _ hp (Ex.new hp) upd_same⟩
    | 3, hn, k, hd =>
      refine ⟨_, rfl, rfl, _, rfl, ifF rfl ?_⟩
      refine ⟨_, rfl, rfl, _, rfl, ifF rfl ?_⟩
      refine ⟨_, rfl, rfl, _, rfl, ifF rfl ?_⟩
      refine ⟨_, rfl, rfl, _, rfl, ifT rfl ?_⟩
      refine ⟨_, rfl, a, T.C 3, _, x, rfl, .inl ⟨d, hd⟩, T.xf 3 hn, T.x_BadSheet.nf _ (by simp), (by show List.lookup _ [(_, y), (_, x)] = _; rw [lookup_put, if_neg (by decide +kernel), lookup_put, if_pos rfl]), ?_⟩
      refine ⟨_, rfl, a, T.C 3, _, y, rfl, .inl ⟨d, hd⟩, T.xf 3 hn, T.x_BadSheet.nf _ (by simp), (by show List.lookup _ [(_, y), (_, x)] = _; rw [lookup_put, if_pos rfl]), ?_⟩
      exact ⟨(by show 2 ≤ sizeLine; decide), fun p hp => k p _ hp (Ex.new hp) upd_same⟩
    | 4, hn, k, hd =>
      refine ⟨_, rfl, rfl, _, rfl, ifF rfl ?_⟩
      refine ⟨_, rfl, rfl, _, rfl, ifF rfl ?_⟩
      refine ⟨_, rfl, rfl, _, rfl, ifF rfl ?_⟩
      refine ⟨_, rfl, rfl, _, rfl, ifF rfl ?_⟩
      refine ⟨_, rfl, rfl, _, rfl, ifT rfl ?_⟩
      refine ⟨_, rfl, a, T.C 4, _, x, rfl, .inl ⟨d, hd⟩, T.xf 4 hn, T.x_BadPlan.nf _ (by simp), (by show List.lookup _ [(_, y), (_, x)] = _; rw [lookup_put, if_neg (by decide +kernel), lookup_put, if_pos rfl]), ?_⟩
      refine ⟨_, rfl, a, T.C 4, _, y, rfl, .inl ⟨d, hd⟩, T.xf 4 hn, T.x_BadPlan.nf _ (by simp), (by show List.lookup _ [(_, y), (_, x)] = _; rw [lookup_put, if_pos rfl]), ?_⟩
      exact ⟨(by show 2 ≤ sizeLine; decide), fun p hp => k p _ hp (Ex.new hp) upd_same⟩
    | 5, hn, k, hd =>
      refine ⟨_, rfl, rfl, _, rfl, ifF rfl ?_⟩
      refine ⟨_, rfl, rfl, _, rfl, ifF rfl ?_⟩
      refine ⟨_, rfl, rfl, _, rfl, ifF rfl ?_⟩
      refine ⟨_, rfl, rfl, _, rfl, ifF rfl ?_⟩
      refine ⟨_, rfl, rfl, _, rfl, ifF rfl ?_⟩
      refine ⟨_, rfl, rfl, _, rfl, ifT rfl ?_⟩
      refine ⟨_, rfl, a, T.C 5, _, x, rfl, .inl ⟨d, hd⟩, T.xf 5 hn, T.x_BadLadders.nf _ (by simp), (by show List.lookup _ [(_, y), (_, x)] = _; rw [lookup_put, if_neg (by decide +kernel), lookup_put, if_pos rfl]), ?_⟩
      refine ⟨_, rfl, a, T.C 5, _, y, rfl, .inl ⟨d, hd⟩, T.xf 5 hn, T.x_BadLadders.nf _ (by simp), (by show List.lookup _ [(_, y), (_, x)] = _; rw [lookup_put, if_pos rfl]), ?_⟩
      exact ⟨(by show 2 ≤ sizeLine; decide), fun p hp => k p _ hp (Ex.new hp) upd_same⟩
    | 6, hn, k, hd =>
      refine ⟨_, rfl, rfl, _, rfl, ifF rfl ?_⟩
      refine ⟨_, rfl, rfl, _, rfl, ifF rfl ?_⟩
      refine ⟨_, rfl, rfl, _, rfl, ifF rfl ?_⟩
      refine ⟨_, rfl, rfl, _, rfl, ifF rfl ?_⟩
      refine ⟨_, rfl, rfl, _, rfl, ifF rfl ?_⟩
      refine ⟨_, rfl, rfl, _, rfl, ifF rfl ?_⟩
      refine ⟨_, rfl, rfl, _, rfl, ifT rfl ?_⟩
      refine ⟨_, rfl, a, T.C 6, _, x, rfl, .inl ⟨d, hd⟩, T.xf 6 hn, T.x_BadHouse.nf _ (by simp), (by show List.lookup _ [(_, y), (_, x)] = _; rw [lookup_put, if_neg (by decide +kernel), lookup_put, if_pos rfl]), ?_⟩
      refine ⟨_, rfl, a, T.C 6, _, y, rfl, .inl ⟨d, hd⟩, T.xf 6 hn, T.x_BadHouse.nf _ (by simp), (by show List.lookup _ [(_, y), (_, x)] = _; rw [lookup_put, if_pos rfl]), ?_⟩
      exact ⟨(by show 2 ≤ sizeLine; decide), fun p hp => k p _ hp (Ex.new hp) upd_same⟩
    | 7, hn, k, hd =>
      refine ⟨_, rfl, rfl, _, rfl, ifF rfl ?_⟩
      refine ⟨_, rfl, rfl, _, rfl, ifF rfl ?_⟩
      refine ⟨_, rfl, rfl, _, rfl, ifF rfl ?_⟩
      refine ⟨_, rfl, rfl, _, rfl, ifF rfl ?_⟩
      refine ⟨_, rfl, rfl, _, rfl, ifF rfl ?_⟩
      refine ⟨_, rfl, rfl, _, rfl, ifF rfl ?_⟩
      refine ⟨_, rfl, rfl, _, rfl, ifF rfl ?_⟩
      refine ⟨_, rfl, rfl, _, rfl, ifT rfl ?_⟩
      refine ⟨_, rfl, a, T.C 7, _, x, rfl, .inl ⟨d, hd⟩, T.xf 7 hn, T.x_BadBare.nf _ (by simp), (by show List.lookup _ [(_, y), (_, x)] = _; rw [lookup_put, if_neg (by decide +kernel), lookup_put, if_pos rfl]), ?_⟩
      refine ⟨_, rfl, a, T.C 7, _, y, rfl, .inl ⟨d, hd⟩, T.xf 7 hn, T.x_BadBare.nf _ (by simp), (by show List.lookup _ [(_, y), (_, x)] = _; rw [lookup_put, if_pos rfl]), ?_⟩
      exact ⟨(by show 2 ≤ sizeLine; decide), fun p hp => k p _ hp (Ex.new hp) upd_same⟩
    | 8, hn, k, hd =>
      refine ⟨_, rfl, rfl, _, rfl, ifF rfl ?_⟩
      refine ⟨_, rfl, rfl, _, rfl, ifF rfl ?_⟩
      refine ⟨_, rfl, rfl, _, rfl, ifF rfl ?_⟩
      refine ⟨_, rfl, rfl, _, rfl, ifF rfl ?_⟩
      refine ⟨_, rfl, rfl, _, rfl, ifF rfl ?_⟩
      refine ⟨_, rfl, rfl, _, rfl, ifF rfl ?_⟩
      refine ⟨_, rfl, rfl, _, rfl, ifF rfl ?_⟩
      refine ⟨_, rfl, rfl, _, rfl, ifF rfl ?_⟩
      refine ⟨_, rfl, rfl, _, rfl, ifT rfl ?_⟩
      refine ⟨_, rfl, a, T.C 8, _, x, rfl, .inl ⟨d, hd⟩, T.xf 8 hn, T.x_BadJobs.nf _ (by simp), (by show List.lookup _ [(_, y), (_, x)] = _; rw [lookup_put, if_neg (by decide +kernel), lookup_put, if_pos rfl]), ?_⟩
      refine ⟨_, rfl, a, T.C 8, _, y, rfl, .inl ⟨d, hd⟩, T.xf 8 hn, T.x_BadJobs.nf _ (by simp), (by show List.lookup _ [(_, y), (_, x)] = _; rw [lookup_put, if_pos rfl]), ?_⟩
      exact ⟨(by show 2 ≤ sizeLine; decide), fun p hp => k p _ hp (Ex.new hp) upd_same⟩
    | 9, hn, k, hd =>
      refine ⟨_, rfl, rfl, _, rfl, ifF rfl ?_⟩
      refine ⟨_, rfl, rfl, _, rfl, ifF rfl ?_⟩
      refine ⟨_, rfl, rfl, _, rfl, ifF rfl ?_⟩
      refine ⟨_, rfl, rfl, _, rfl, ifF rfl ?_⟩
      refine ⟨_, rfl, rfl, _, rfl, ifF rfl ?_⟩
      refine ⟨_, rfl, rfl, _, rfl, ifF rfl ?_⟩
      refine ⟨_, rfl, rfl, _, rfl, ifF rfl ?_⟩
      refine ⟨_, rfl, rfl, _, rfl, ifF rfl ?_⟩
      refine ⟨_, rfl, rfl, _, rfl, ifF rfl ?_⟩
      refine ⟨_, rfl, rfl, _, rfl, ifT rfl ?_⟩
      refine ⟨_, rfl, a, T.C 9, _, x, rfl, .inl ⟨d, hd⟩, T.xf 9 hn, T.x_BadJournal.nf _ (by simp), (by show List.lookup _ [(_, y), (_, x)] = _; rw [lookup_put, if_neg (by decide +kernel), lookup_put, if_pos rfl]), ?_⟩
      refine ⟨_, rfl, a, T.C 9, _, y, rfl, .inl ⟨d, hd⟩, T.xf 9 hn, T.x_BadJournal.nf _ (by simp), (by show List.lookup _ [(_, y), (_, x)] = _; rw [lookup_put, if_pos rfl]), ?_⟩
      exact ⟨(by show 2 ≤ sizeLine; decide), fun p hp => k p _ hp (Ex.new hp) upd_same⟩
    | 10, hn, k, hd =>
      refine ⟨_, rfl, rfl, _, rfl, ifF rfl ?_⟩
      refine ⟨_, rfl, rfl, _, rfl, ifF rfl ?_⟩
      refine ⟨_, rfl, rfl, _, rfl, ifF rfl ?_⟩
      refine ⟨_, rfl, rfl, _, rfl, ifF rfl ?_⟩
      refine ⟨_, rfl, rfl, _, rfl, ifF rfl ?_⟩
      refine ⟨_, rfl, rfl, _, rfl, ifF rfl ?_⟩
      refine ⟨_, rfl, rfl, _, rfl, ifF rfl ?_⟩
      refine ⟨_, rfl, rfl, _, rfl, ifF rfl ?_⟩
      refine ⟨_, rfl, rfl, _, rfl, ifF rfl ?_⟩
      refine ⟨_, rfl, rfl, _, rfl, ifF rfl ?_⟩
      refine ⟨_, rfl, rfl, _, rfl, ifT rfl ?_⟩
      refine ⟨_, rfl, a, T.C 10, _, x, rfl, .inl ⟨d, hd⟩, T.xf 10 hn, T.x_BadClaim.nf _ (by simp), (by show List.lookup _ [(_, x)] = _; rw [lookup_put, if_pos rfl]), ?_⟩
      exact ⟨(by show 1 ≤ sizeLine; decide), fun p hp => k p _ hp (Ex.new hp) upd_same⟩
    | 11, hn, k, hd =>
      refine ⟨_, rfl, rfl, _, rfl, ifF rfl ?_⟩
      refine ⟨_, rfl, rfl, _, rfl, ifF rfl ?_⟩
      refine ⟨_, rfl, rfl, _, rfl, ifF rfl ?_⟩
      refine ⟨_, rfl, rfl, _, rfl, ifF rfl ?_⟩
      refine ⟨_, rfl, rfl, _, rfl, ifF rfl ?_⟩
      refine ⟨_, rfl, rfl, _, rfl, ifF rfl ?_⟩
      refine ⟨_, rfl, rfl, _, rfl, ifF rfl ?_⟩
      refine ⟨_, rfl, rfl, _, rfl, ifF rfl ?_⟩
      refine ⟨_, rfl, rfl, _, rfl, ifF rfl ?_⟩
      refine ⟨_, rfl, rfl, _, rfl, ifF rfl ?_⟩
      refine ⟨_, rfl, rfl, _, rfl, ifF rfl ?_⟩
      refine ⟨_, rfl, rfl, _, rfl, ifT rfl ?_⟩
      refine ⟨_, rfl, a, T.C 11, _, x, rfl, .inl ⟨d, hd⟩, T.xf 11 hn, T.x_BadStep.nf _ (by simp), (by show List.lookup _ [(_, x)] = _; rw [lookup_put, if_pos rfl]), ?_⟩
      exact ⟨(by show 1 ≤ sizeLine; decide), fun p hp => k p _ hp (Ex.new hp) upd_same⟩
    | 12, hn, k, hd =>
      refine ⟨_, rfl, rfl, _, rfl, ifF rfl ?_⟩
      refine ⟨_, rfl, rfl, _, rfl, ifF rfl ?_⟩
      refine ⟨_, rfl, rfl, _, rfl, ifF rfl ?_⟩
      refine ⟨_, rfl, rfl, _, rfl, ifF rfl ?_⟩
      refine ⟨_, rfl, rfl, _, rfl, ifF rfl ?_⟩
      refine ⟨_, rfl, rfl, _, rfl, ifF rfl ?_⟩
      refine ⟨_, rfl, rfl, _, rfl, ifF rfl ?_⟩
      refine ⟨_, rfl, rfl, _, rfl, ifF rfl ?_⟩
      refine ⟨_, rfl, rfl, _, rfl, ifF rfl ?_⟩
      refine ⟨_, rfl, rfl, _, rfl, ifF rfl ?_⟩
      refine ⟨_, rfl, rfl, _, rfl, ifF rfl ?_⟩
      refine ⟨_, rfl, rfl, _, rfl, ifF rfl ?_⟩
      refine ⟨_, rfl, rfl, _, rfl, ifT rfl ?_⟩
      refine ⟨_, rfl, a, T.C 12, _, x, rfl, .inl ⟨d, hd⟩, T.xf 12 hn, T.x_BadText.nf _ (by simp), (by show List.lookup _ [(_, y), (_, x)] = _; rw [lookup_put, if_neg (by decide +kernel), lookup_put, if_pos rfl]), ?_⟩
      refine ⟨_, rfl, a, T.C 12, _, y, rfl, .inl ⟨d, hd⟩, T.xf 12 hn, T.x_BadText.nf _ (by simp), (by show List.lookup _ [(_, y), (_, x)] = _; rw [lookup_put, if_pos rfl]), ?_⟩
      exact ⟨(by show 2 ≤ sizeLine; decide), fun p hp => k p _ hp (Ex.new hp) upd_same⟩
    | 13, hn, k, hd =>
      refine ⟨_, rfl, rfl, _, rfl, ifF rfl ?_⟩
      refine ⟨_, rfl, rfl, _, rfl, ifF rfl ?_⟩
      refine ⟨_, rfl, rfl, _, rfl, ifF rfl ?_⟩
      refine ⟨_, rfl, rfl, _, rfl, ifF rfl ?_⟩
      refine ⟨_, rfl, rfl, _, rfl, ifF rfl ?_⟩
      refine ⟨_, rfl, rfl, _, rfl, ifF rfl ?_⟩
      refine ⟨_, rfl, rfl, _, rfl, ifF rfl ?_⟩
      refine ⟨_, rfl, rfl, _, rfl, ifF rfl ?_⟩
      refine ⟨_, rfl, rfl, _, rfl, ifF rfl ?_⟩
      refine ⟨_, rfl, rfl, _, rfl, ifF rfl ?_⟩
      refine ⟨_, rfl, rfl, _, rfl, ifF rfl ?_⟩
      refine ⟨_, rfl, rfl, _, rfl, ifF rfl ?_⟩
      refine ⟨_, rfl, rfl, _, rfl, ifF rfl ?_⟩
      refine ⟨_, rfl, rfl, _, rfl, ifT rfl ?_⟩
      refine ⟨_, rfl, a, T.C 13, _, x, rfl, .inl ⟨d, hd⟩, T.xf 13 hn, T.x_BadCommand.nf _ (by simp), (by show List.lookup _ [(_, x)] = _; rw [lookup_put, if_pos rfl]), ?_⟩
      exact ⟨(by show 1 ≤ sizeLine; decide), fun p hp => k p _ hp (Ex.new hp) upd_same⟩
    | 14, hn, k, hd =>
      refine ⟨_, rfl, rfl, _, rfl, ifF rfl ?_⟩
      refine ⟨_, rfl, rfl, _, rfl, ifF rfl ?_⟩
      refine ⟨_, rfl, rfl, _, rfl, ifF rfl ?_⟩
      refine ⟨_, rfl, rfl, _, rfl, ifF rfl ?_⟩
      refine ⟨_, rfl, rfl, _, rfl, ifF rfl ?_⟩
      refine ⟨_, rfl, rfl, _, rfl, ifF rfl ?_⟩
      refine ⟨_, rfl, rfl, _, rfl, ifF rfl ?_⟩
      refine ⟨_, rfl, rfl, _, rfl, ifF rfl ?_⟩
      refine ⟨_, rfl, rfl, _, rfl, ifF rfl ?_⟩
      refine ⟨_, rfl, rfl, _, rfl, ifF rfl ?_⟩
      refine ⟨_, rfl, rfl, _, rfl, ifF rfl ?_⟩
      refine ⟨_, rfl, rfl, _, rfl, ifF rfl ?_⟩
      refine ⟨_, rfl, rfl, _, rfl, ifF rfl ?_⟩
      refine ⟨_, rfl, rfl, _, rfl, ifF rfl ?_⟩
      refine ⟨_, rfl, rfl, _, rfl, ifT rfl ?_⟩
      refine ⟨_, rfl, a, T.C 14, _, x, rfl, .inl ⟨d, hd⟩, T.xf 14 hn, T.x_NoSuch.nf _ (by simp), (by show List.lookup _ [(_, y), (_, x)] = _; rw [lookup_put, if_neg (by decide +kernel), lookup_put, if_pos rfl]), ?_⟩
      refine ⟨_, rfl, a, T.C 14, _, y, rfl, .inl ⟨d, hd⟩, T.xf 14 hn, T.x_NoSuch.nf _ (by simp), (by show List.lookup _ [(_, y), (_, x)] = _; rw [lookup_put, if_pos rfl]), ?_⟩
      exact ⟨(by show 2 ≤ sizeLine; decide), fun p hp => k p _ hp (Ex.new hp) upd_same⟩
    | 15, hn, k, hd =>
      refine ⟨_, rfl, rfl, _, rfl, ifF rfl ?_⟩
      refine ⟨_, rfl, rfl, _, rfl, ifF rfl ?_⟩
      refine ⟨_, rfl, rfl, _, rfl, ifF rfl ?_⟩
      refine ⟨_, rfl, rfl, _, rfl, ifF rfl ?_⟩
      refine ⟨_, rfl, rfl, _, rfl, ifF rfl ?_⟩
      refine ⟨_, rfl, rfl, _, rfl, ifF rfl ?_⟩
      refine ⟨_, rfl, rfl, _, rfl, ifF rfl ?_⟩
      refine ⟨_, rfl, rfl, _, rfl, ifF rfl ?_⟩
      refine ⟨_, rfl, rfl, _, rfl, ifF rfl ?_⟩
      refine ⟨_, rfl, rfl, _, rfl, ifF rfl ?_⟩
      refine ⟨_, rfl, rfl, _, rfl, ifF rfl ?_⟩
      refine ⟨_, rfl, rfl, _, rfl, ifF rfl ?_⟩
      refine ⟨_, rfl, rfl, _, rfl, ifF rfl ?_⟩
      refine ⟨_, rfl, rfl, _, rfl, ifF rfl ?_⟩
      refine ⟨_, rfl, rfl, _, rfl, ifF rfl ?_⟩
      refine ⟨_, rfl, rfl, _, rfl, ifT rfl ?_⟩
      refine ⟨_, rfl, a, T.C 15, _, x, rfl, .inl ⟨d, hd⟩, T.xf 15 hn, T.x_Taken.nf _ (by simp), (by show List.lookup _ [(_, x)] = _; rw [lookup_put, if_pos rfl]), ?_⟩
      exact ⟨(by show 1 ≤ sizeLine; decide), fun p hp => k p _ hp (Ex.new hp) upd_same⟩
    | 16, hn, k, hd =>
      refine ⟨_, rfl, rfl, _, rfl, ifF rfl ?_⟩
      refine ⟨_, rfl, rfl, _, rfl, ifF rfl ?_⟩
      refine ⟨_, rfl, rfl, _, rfl, ifF rfl ?_⟩
      refine ⟨_, rfl, rfl, _, rfl, ifF rfl ?_⟩
      refine ⟨_, rfl, rfl, _, rfl, ifF rfl ?_⟩
      refine ⟨_, rfl, rfl, _, rfl, ifF rfl ?_⟩
      refine ⟨_, rfl, rfl, _, rfl, ifF rfl ?_⟩
      refine ⟨_, rfl, rfl, _, rfl, ifF rfl ?_⟩
      refine ⟨_, rfl, rfl, _, rfl, ifF rfl ?_⟩
      refine ⟨_, rfl, rfl, _, rfl, ifF rfl ?_⟩
      refine ⟨_, rfl, rfl, _, rfl, ifF rfl ?_⟩
      refine ⟨_, rfl, rfl, _, rfl, ifF rfl ?_⟩
      refine ⟨_, rfl, rfl, _, rfl, ifF rfl ?_⟩
      refine ⟨_, rfl, rfl, _, rfl, ifF rfl ?_⟩
      refine ⟨_, rfl, rfl, _, rfl, ifF rfl ?_⟩
      refine ⟨_, rfl, rfl, _, rfl, ifF rfl ?_⟩
      refine ⟨_, rfl, rfl, _, rfl, ifT rfl ?_⟩
      refine ⟨_, rfl, a, T.C 16, _, x, rfl, .inl ⟨d, hd⟩, T.xf 16 hn, T.x_NoPlan.nf _ (by simp), (by show List.lookup _ [(_, x)] = _; rw [lookup_put, if_pos rfl]), ?_⟩
      exact ⟨(by show 1 ≤ sizeLine; decide), fun p hp => k p _ hp (Ex.new hp) upd_same⟩
    | n + 17, h, _, _ => exact absurd h (by omega)
theorem ok_fieldsP (T : Txt K mg) : FnP P w K mg base 1 T.d_law_fields.f T.d_law_fields.fd ["number", "error"] (spFieldsP T) := by
  refine fn_ofP T.d_law_fields.F sc_law_fields (fun a c d vs H Q E h => ?_) (fun cdv A outer s H vs Q p cls od hr hz hf h => ?_)
  · obtain ⟨n, d, x, y, rfl, _⟩ := h
    rfl
  · obtain ⟨a, oe⟩ := p
    obtain ⟨n, d, x, y, rfl, hn, rfl, rfl, hd, k⟩ := h
    refine ⟨_, (pss_cons (ps_if (pt_cmpR op_eq (pv 0) pe_int (nomark _)) (pss_one (ps_ret (pe_lst (pa_cons (pe_errF (pv 1)) pa_nil))))
  pss_nil)
  (pss_cons (ps_if (pt_cmpR op_eq (pv 0) pe_int (nomark _)) (pss_one (ps_ret (pe_lst (pa_cons (pe_errF (pv 1)) (pa_cons (pe_errF (pv 1)) pa_nil)))))
  pss_nil)
  (pss_cons (ps_if (pt_cmpR op_eq (pv 0) pe_int (nomark _)) (pss_one (ps_ret (pe_lst (pa_cons (pe_errF (pv 1)) (pa_cons (pe_errF (pv 1)) pa_nil)))))
  pss_nil)
  (pss_cons (ps_if (pt_cmpR op_eq (pv 0) pe_int (nomark _)) (pss_one (ps_ret (pe_lst (pa_cons (pe_errF (pv 1)) (pa_cons (pe_errF (pv 1)) pa_nil)))))
  pss_nil)
  (pss_cons (ps_if (pt_cmpR op_eq (pv 0) pe_int (nomark _)) (pss_one (ps_ret (pe_lst (pa_cons (pe_errF (pv 1)) (pa_cons (pe_errF (pv 1)) pa_nil)))))
  pss_nil)
  (pss_cons (ps_if (pt_cmpR op_eq (pv 0) pe_int (nomark _)) (pss_one (ps_ret (pe_lst (pa_cons (pe_errF (pv 1)) (pa_cons (pe_errF (pv 1)) pa_nil)))))
  pss_nil)
  (pss_cons (ps_if (pt_cmpR op_eq (pv 0) pe_int (nomark _)) (pss_one (ps_ret (pe_lst (pa_cons (pe_errF (pv 1)) (pa_cons (pe_errF (pv 1)) pa_nil)))))
  pss_nil)
  (pss_cons (ps_if (pt_cmpR op_eq (pv 0) pe_int (nomark _)) (pss_one (ps_ret (pe_lst (pa_cons (pe_errF (pv 1)) (pa_cons (pe_errF (pv 1)) pa_nil)))))
  pss_nil)
  (pss_cons (ps_if (pt_cmpR op_eq (pv 0) pe_int (nomark _)) (pss_one (ps_ret (pe_lst (pa_cons (pe_errF (pv 1)) (pa_cons (pe_errF (pv 1)) pa_nil)))))
  pss_nil)
  (pss_cons (ps_if (pt_cmpR op_eq (pv 0) pe_int (nomark _)) (pss_one (ps_ret (pe_lst (pa_cons (pe_errF (pv 1)) (pa_cons (pe_errF (pv 1)) pa_nil)))))
  pss_nil)
  (pss_cons (ps_if (pt_cmpR op_eq (pv 0) pe_int (nomark _)) (pss_one (ps_ret (pe_lst (pa_cons (pe_errF (pv 1)) pa_nil))))
  pss_nil)
  (pss_cons (ps_if (pt_cmpR op_eq (pv 0) pe_int (nomark _)) (pss_one (ps_ret (pe_lst (pa_cons (pe_errF (pv 1)) pa_nil))))
  pss_nil)
  (pss_cons (ps_if (pt_cmpR op_eq (pv 0) pe_int (nomark _)) (pss_one (ps_ret (pe_lst (pa_cons (pe_errF (pv 1)) (pa_cons (pe_errF (pv 1)) pa_nil)))))
  pss_nil)
  (pss_cons (ps_if (pt_cmpR op_eq (pv 0) pe_int (nomark _)) (pss_one (ps_ret (pe_lst (pa_cons (pe_errF (pv 1)) pa_nil))))
  pss_nil)
  (pss_cons (ps_if (pt_cmpR op_eq (pv 0) pe_int (nomark _)) (pss_one (ps_ret (pe_lst (pa_cons (pe_errF (pv 1)) (pa_cons (pe_errF (pv 1)) pa_nil)))))
  pss_nil)
  (pss_cons (ps_if (pt_cmpR op_eq (pv 0) pe_int (nomark _)) (pss_one (ps_ret (pe_lst (pa_cons (pe_errF (pv 1)) pa_nil))))
  pss_nil)
  (pss_cons (ps_if (pt_cmpR op_eq (pv 0) pe_int (nomark _)) (pss_one (ps_ret (pe_lst (pa_cons (pe_errF (pv 1)) pa_nil))))
  pss_nil)
  (pss_one (ps_ret pe_non))))))))))))))))))), ?_⟩
    match n, hn, k, And.intro hz hd with
    | 0, hn, k, hd =>
      refine ⟨_, rfl, rfl, _, rfl, ifT rfl ?_⟩
      refine ⟨_, rfl, a, T.C 0, _, x, rfl, .inr ⟨oe, d, List.mem_singleton.mpr rfl, hd.1, hf, hd.2⟩, T.xf 0 hn, T.x_BadName.nf _ (by simp), (by show List.lookup _ [(_, x)] = _; rw [lookup_put, if_pos rfl]), ?_⟩
      exact ⟨(by show 1 ≤ sizeLine; decide), fun p hp => k p _ hp (Ex.new hp) upd_same⟩
    | 1, hn, k, hd =>
      refine ⟨_, rfl, rfl, _, rfl, ifF rfl ?_⟩
      refine ⟨_, rfl, rfl, _, rfl, ifT rfl ?_⟩
      refine ⟨_, rfl, a, T.C 1, _, x, rfl, .inr ⟨oe, d, List.mem_singleton.mpr rfl, hd.1, hf, hd.2⟩, T.xf 1 hn, T.x_BadHands.nf _ (by simp), (by show List.lookup _ [(_, y), (_, x)] = _; rw [lookup_put, if_neg (by decide +kernel), lookup_put, if_pos rfl]), ?_⟩
      refine ⟨_, rfl, a, T.C 1, _, y, rfl, .inr ⟨oe, d, List.mem_singleton.mpr rfl, hd.1, hf, hd.2⟩, T.xf 1 hn, T.x_BadHands.nf _ (by simp), (by show List.lookup _ [(_, y), (_, x)] = _; rw [lookup_put, if_pos rfl]), ?_⟩
      exact ⟨(by show 2 ≤ sizeLine; decide), fun p hp => k p _ hp (Ex.new hp) upd_same⟩
    | 2, hn, k, hd =>
      refine ⟨_, rfl, rfl, _, rfl, ifF rfl ?_⟩
      refine ⟨_, rfl, rfl, _, rfl, ifF rfl ?_⟩
      refine ⟨_, rfl, rfl, _, rfl, ifT rfl ?_⟩
      refine ⟨_, rfl, a, T.C 2, _, x, rfl, .inr ⟨oe, d, List.mem_singleton.mpr rfl, hd.1, hf, hd.2⟩, T.xf 2 hn, T.x_BadCalendar.nf _ (by simp), (by show List.lookup _ [(_, y), (_, x)] = _; rw [lookup_put, if_neg (by decide +kernel), lookup_put, if_pos rfl]), ?_⟩
      refine ⟨_, rfl, a, T.C 2, _, y, rfl, .inr ⟨oe, d, List.mem_singleton.mpr rfl, hd.1, hf, hd.2⟩, T.xf 2 hn, T.x_BadCalendar.nf _ (by simp), (by show List.lookup _ [(_, y), (_, x)] = _; rw [lookup_put, if_pos rfl]), ?_⟩
      exact ⟨(by show 2 ≤ sizeLine; decide), fun p hp => k p _ hp (Ex.new hp) upd_same⟩
    | 3, hn, k, hd =>
      refine ⟨_, rfl, rfl, _, rfl, ifF rfl ?_⟩
      refine ⟨_, rfl, rfl, _, rfl, ifF rfl ?_⟩
      refine ⟨_, rfl, rfl, _, rfl, ifF rfl ?_⟩
      refine ⟨_, rfl, rfl, _, rfl, ifT rfl ?_⟩
      refine ⟨_, rfl, a, T.C 3, _, x, rfl, .inr ⟨oe, d, List.mem_singleton.mpr rfl, hd.1, hf, hd.2⟩, T.xf 3 hn, T.x_BadSheet.nf _ (by simp), (by show List.lookup _ [(_, y), (_, x)] = _; rw [lookup_put, if_neg (by decide +kernel), lookup_put, if_pos rfl]), ?_⟩
      refine ⟨_, rfl, a, T.C 3, _, y, rfl, .inr ⟨oe, d, List.mem_singleton.mpr rfl, hd.1, hf, hd.2⟩, T.xf 3 hn, T.x_BadSheet.nf _ (by simp), (by show List.lookup _ [(_, y), (_, x)] = _; rw [lookup_put, if_pos rfl]), ?_⟩
      exact ⟨(by show 2 ≤ sizeLine; decide), fun p hp => k p _ hp (Ex.new hp) upd_same⟩
    | 4, hn, k, hd =>
      refine ⟨_, rfl, rfl, _, rfl, ifF rfl ?_⟩
      refine ⟨_, rfl, rfl, _, rfl, ifF rfl ?_⟩
      refine ⟨_, rfl, rfl, _, rfl, ifF rfl ?_⟩
      refine ⟨_, rfl, rfl, _, rfl, ifF rfl ?_⟩
      refine ⟨_, rfl, rfl, _, rfl, ifT rfl ?_⟩
      refine ⟨_, rfl, a, T.C 4, _, x, rfl, .inr ⟨oe, d, List.mem_singleton.mpr rfl, hd.1, hf, hd.2⟩, T.xf 4 hn, T.x_BadPlan.nf _ (by simp), (by show List.lookup _ [(_, y), (_, x)] = _; rw [lookup_put, if_neg (by decide +kernel), lookup_put, if_pos rfl]), ?_⟩
      refine ⟨_, rfl, a, T.C 4, _, y, rfl, .inr ⟨oe, d, List.mem_singleton.mpr rfl, hd.1, hf, hd.2⟩, T.xf 4 hn, T.x_BadPlan.nf _ (by simp), (by show List.lookup _ [(_, y), (_, x)] = _; rw [lookup_put, if_pos rfl]), ?_⟩
      exact ⟨(by show 2 ≤ sizeLine; decide), fun p hp => k p _ hp (Ex.new hp) upd_same⟩
    | 5, hn, k, hd =>
      refine ⟨_, rfl, rfl, _, rfl, ifF rfl ?_⟩
      refine ⟨_, rfl, rfl, _, rfl, ifF rfl ?_⟩
      refine ⟨_, rfl, rfl, _, rfl, ifF rfl ?_⟩
      refine ⟨_, rfl, rfl, _, rfl, ifF rfl ?_⟩
      refine ⟨_, rfl, rfl, _, rfl, ifF rfl ?_⟩
      refine ⟨_, rfl, rfl, _, rfl, ifT rfl ?_⟩
      refine ⟨_, rfl, a, T.C 5, _, x, rfl, .inr ⟨oe, d, List.mem_singleton.mpr rfl, hd.1, hf, hd.2⟩, T.xf 5 hn, T.x_BadLadders.nf _ (by simp), (by show List.lookup _ [(_, y), (_, x)] = _; rw [lookup_put, if_neg (by decide +kernel), lookup_put, if_pos rfl]), ?_⟩
      refine ⟨_, rfl, a, T.C 5, _, y, rfl, .inr ⟨oe, d, List.mem_singleton.mpr rfl, hd.1, hf, hd.2⟩, T.xf 5 hn, T.x_BadLadders.nf _ (by simp), (by show List.lookup _ [(_, y), (_, x)] = _; rw [lookup_put, if_pos rfl]), ?_⟩
      exact ⟨(by show 2 ≤ sizeLine; decide), fun p hp => k p _ hp (Ex.new hp) upd_same⟩
    | 6, hn, k, hd =>
      refine ⟨_, rfl, rfl, _, rfl, ifF rfl ?_⟩
      refine ⟨_, rfl, rfl, _, rfl, ifF rfl ?_⟩
      refine ⟨_, rfl, rfl, _, rfl, ifF rfl ?_⟩
      refine ⟨_, rfl, rfl, _, rfl, ifF rfl ?_⟩
      refine ⟨_, rfl, rfl, _, rfl, ifF rfl ?_⟩
      refine ⟨_, rfl, rfl, _, rfl, ifF rfl ?_⟩
      refine ⟨_, rfl, rfl, _, rfl, ifT rfl ?_⟩
      refine ⟨_, rfl, a, T.C 6, _, x, rfl, .inr ⟨oe, d, List.mem_singleton.mpr rfl, hd.1, hf, hd.2⟩, T.xf 6 hn, T.x_BadHouse.nf _ (by simp), (by show List.lookup _ [(_, y), (_, x)] = _; rw [lookup_put, if_neg (by decide +kernel), lookup_put, if_pos rfl]), ?_⟩
      refine ⟨_, rfl, a, T.C 6, _, y, rfl, .inr ⟨oe, d, List.mem_singleton.mpr rfl, hd.1, hf, hd.2⟩, T.xf 6 hn, T.x_BadHouse.nf _ (by simp), (by show List.lookup _ [(_, y), (_, x)] = _; rw [lookup_put, if_pos rfl]), ?_⟩
      exact ⟨(by show 2 ≤ sizeLine; decide), fun p hp => k p _ hp (Ex.new hp) upd_same⟩
    | 7, hn, k, hd =>
      refine ⟨_, rfl, rfl, _, rfl, ifF rfl ?_⟩
      refine ⟨_, rfl, rfl, _, rfl, ifF rfl ?_⟩
      refine ⟨_, rfl, rfl, _, rfl, ifF rfl ?_⟩
      refine ⟨_, rfl, rfl, _, rfl, ifF rfl ?_⟩
      refine ⟨_, rfl, rfl, _, rfl, ifF rfl ?_⟩
      refine ⟨_, rfl, rfl, _, rfl, ifF rfl ?_⟩
      refine ⟨_, rfl, rfl, _, rfl, ifF rfl ?_⟩
      refine ⟨_, rfl, rfl, _, rfl, ifT rfl ?_⟩
      refine ⟨_, rfl, a, T.C 7, _, x, rfl, .inr ⟨oe, d, List.mem_singleton.mpr rfl, hd.1, hf, hd.2⟩, T.xf 7 hn, T.x_BadBare.nf _ (by simp), (by show List.lookup _ [(_, y), (_, x)] = _; rw [lookup_put, if_neg (by decide +kernel), lookup_put, if_pos rfl]), ?_⟩
      refine ⟨_, rfl, a, T.C 7, _, y, rfl, .inr ⟨oe, d, List.mem_singleton.mpr rfl, hd.1, hf, hd.2⟩, T.xf 7 hn, T.x_BadBare.nf _ (by simp), (by show List.lookup _ [(_, y), (_, x)] = _; rw [lookup_put, if_pos rfl]), ?_⟩
      exact ⟨(by show 2 ≤ sizeLine; decide), fun p hp => k p _ hp (Ex.new hp) upd_same⟩
    | 8, hn, k, hd =>
      refine ⟨_, rfl, rfl, _, rfl, ifF rfl ?_⟩
      refine ⟨_, rfl, rfl, _, rfl, ifF rfl ?_⟩
      refine ⟨_, rfl, rfl, _, rfl, ifF rfl ?_⟩
      refine ⟨_, rfl, rfl, _, rfl, ifF rfl ?_⟩
      refine ⟨_, rfl, rfl, _, rfl, ifF rfl ?_⟩
      refine ⟨_, rfl, rfl, _, rfl, ifF rfl ?_⟩
      refine ⟨_, rfl, rfl, _, rfl, ifF rfl ?_⟩
      refine ⟨_, rfl, rfl, _, rfl, ifF rfl ?_⟩
      refine ⟨_, rfl, rfl, _, rfl, ifT rfl ?_⟩
      refine ⟨_, rfl, a, T.C 8, _, x, rfl, .inr ⟨oe, d, List.mem_singleton.mpr rfl, hd.1, hf, hd.2⟩, T.xf 8 hn, T.x_BadJobs.nf _ (by simp), (by show List.lookup _ [(_, y), (_, x)] = _; rw [lookup_put, if_neg (by decide +kernel), lookup_put, if_pos rfl]), ?_⟩
      refine ⟨_, rfl, a, T.C 8, _, y, rfl, .inr ⟨oe, d, List.mem_singleton.mpr rfl, hd.1, hf, hd.2⟩, T.xf 8 hn, T.x_BadJobs.nf _ (by simp), (by show List.lookup _ [(_, y), (_, x)] = _; rw [lookup_put, if_pos rfl]), ?_⟩
      exact ⟨(by show 2 ≤ sizeLine; decide), fun p hp => k p _ hp (Ex.new hp) upd_same⟩
    | 9, hn, k, hd =>
      refine ⟨_, rfl, rfl, _, rfl, ifF rfl ?_⟩
      refine ⟨_, rfl, rfl, _, rfl, ifF rfl ?_⟩
      refine ⟨_, rfl, rfl, _, rfl, ifF rfl ?_⟩
      refine ⟨_, rfl, rfl, _, rfl, ifF rfl ?_⟩
      refine ⟨_, rfl, rfl, _, rfl, ifF rfl ?_⟩
      refine ⟨_, rfl, rfl, _, rfl, ifF rfl ?_⟩
      refine ⟨_, rfl, rfl, _, rfl, ifF rfl ?_⟩
      refine ⟨_, rfl, rfl, _, rfl, ifF rfl ?_⟩
      refine ⟨_, rfl, rfl, _, rfl, ifF rfl ?_⟩
      refine ⟨_, rfl, rfl, _, rfl, ifT rfl ?_⟩
      refine ⟨_, rfl, a, T.C 9, _, x, rfl, .inr ⟨oe, d, List.mem_singleton.mpr rfl, hd.1, hf, hd.2⟩, T.xf 9 hn, T.x_BadJournal.nf _ (by simp), (by show List.lookup _ [(_, y), (_, x)] = _; rw [lookup_put, if_neg (by decide +kernel), lookup_put, if_pos rfl]), ?_⟩
      refine ⟨_, rfl, a, T.C 9, _, y, rfl, .inr ⟨oe, d, List.mem_singleton.mpr rfl, hd.1, hf, hd.2⟩, T.xf 9 hn, T.x_BadJournal.nf _ (by simp), (by show List.lookup _ [(_, y), (_, x)] = _; rw [lookup_put, if_pos rfl]), ?_⟩
      exact ⟨(by show 2 ≤ sizeLine; decide), fun p hp => k p _ hp (Ex.new hp) upd_same⟩
    | 10, hn, k, hd =>
      refine ⟨_, rfl, rfl, _, rfl, ifF rfl ?_⟩
      refine ⟨_, rfl, rfl, _, rfl, ifF rfl ?_⟩
      refine ⟨_, rfl, rfl, _, rfl, ifF rfl ?_⟩
      refine ⟨_, rfl, rfl, _, rfl, ifF rfl ?_⟩
      refine ⟨_, rfl, rfl, _, rfl, ifF rfl ?_⟩
      refine ⟨_, rfl, rfl, _, rfl, ifF rfl ?_⟩
      refine ⟨_, rfl, rfl, _, rfl, ifF rfl ?_⟩
      refine ⟨_, rfl, rfl, _, rfl, ifF rfl ?_⟩
      refine ⟨_, rfl, rfl, _, rfl, ifF rfl ?_⟩
      refine ⟨_, rfl, rfl, _, rfl, ifF rfl ?_⟩
      refine ⟨_, rfl, rfl, _, rfl, ifT rfl ?_⟩
      refine ⟨_, rfl, a, T.C 10, _, x, rfl, .inr ⟨oe, d, List.mem_singleton.mpr rfl, hd.1, hf, hd.2⟩, T.xf 10 hn, T.x_BadClaim.nf _ (by simp), (by show List.lookup _ [(_, x)] = _; rw [lookup_put, if_pos rfl]), ?_⟩
      exact ⟨(by show 1 ≤ sizeLine; decide), fun p hp => k p _ hp (Ex.new hp) upd_same⟩
    | 11, hn, k, hd =>
      refine ⟨_, rfl, rfl, _, rfl, ifF rfl ?_⟩
      refine ⟨_, rfl, rfl, _, rfl, ifF rfl ?_⟩
      refine ⟨_, rfl, rfl, _, rfl, ifF rfl ?_⟩
      refine ⟨_, rfl, rfl, _, rfl, ifF rfl ?_⟩
      refine ⟨_, rfl, rfl, _, rfl, ifF rfl ?_⟩
      refine ⟨_, rfl, rfl, _, rfl, ifF rfl ?_⟩
      refine ⟨_, rfl, rfl, _, rfl, ifF rfl ?_⟩
      refine ⟨_, rfl, rfl, _, rfl, ifF rfl ?_⟩
      refine ⟨_, rfl, rfl, _, rfl, ifF rfl ?_⟩
      refine ⟨_, rfl, rfl, _, rfl, ifF rfl ?_⟩
      refine ⟨_, rfl, rfl, _, rfl, ifF rfl ?_⟩
      refine ⟨_, rfl, rfl, _, rfl, ifT rfl ?_⟩
      refine ⟨_, rfl, a, T.C 11, _, x, rfl, .inr ⟨oe, d, List.mem_singleton.mpr rfl, hd.1, hf, hd.2⟩, T.xf 11 hn, T.x_BadStep.nf _ (by simp), (by show List.lookup _ [(_, x)] = _; rw [lookup_put, if_pos rfl]), ?_⟩
      exact ⟨(by show 1 ≤ sizeLine; decide), fun p hp => k p _ hp (Ex.new hp) upd_same⟩
    | 12, hn, k, hd =>
      refine ⟨_, rfl, rfl, _, rfl, ifF rfl ?_⟩
      refine ⟨_, rfl, rfl, _, rfl, ifF rfl ?_⟩
      refine ⟨_, rfl, rfl, _, rfl, ifF rfl ?_⟩
      refine ⟨_, rfl, rfl, _, rfl, ifF rfl ?_⟩
      refine ⟨_, rfl, rfl, _, rfl, ifF rfl ?_⟩
      refine ⟨_, rfl, rfl, _, rfl, ifF rfl ?_⟩
      refine ⟨_, rfl, rfl, _, rfl, ifF rfl ?_⟩
      refine ⟨_, rfl, rfl, _, rfl, ifF rfl ?_⟩
      refine ⟨_, rfl, rfl, _, rfl, ifF rfl ?_⟩
      refine ⟨_, rfl, rfl, _, rfl, ifF rfl ?_⟩
      refine ⟨_, rfl, rfl, _, rfl, ifF rfl ?_⟩
      refine ⟨_, rfl, rfl, _, rfl, ifF rfl ?_⟩
      refine ⟨_, rfl, rfl, _, rfl, ifT rfl ?_⟩
      refine ⟨_, rfl, a, T.C 12, _, x, rfl, .inr ⟨oe, d, List.mem_singleton.mpr rfl, hd.1, hf, hd.2⟩, T.xf 12 hn, T.x_BadText.nf _ (by simp), (by show List.lookup _ [(_, y), (_, x)] = _; rw [lookup_put, if_neg (by decide +kernel), lookup_put, if_pos rfl]), ?_⟩
      refine ⟨_, rfl, a, T.C 12, _, y, rfl, .inr ⟨oe, d, List.mem_singleton.mpr rfl, hd.1, hf, hd.2⟩, T.xf 12 hn, T.x_BadText.nf _ (by simp), (by show List.lookup _ [(_, y), (_, x)] = _; rw [lookup_put, if_pos rfl]), ?_⟩
      exact ⟨(by show 2 ≤ sizeLine; decide), fun p hp => k p _ hp (Ex.new hp) upd_same⟩
    | 13, hn, k, hd =>
      refine ⟨_, rfl, rfl, _, rfl, ifF rfl ?_⟩
      refine ⟨_, rfl, rfl, _, rfl, ifF rfl ?_⟩
      refine ⟨_, rfl, rfl, _, rfl, ifF rfl ?_⟩
      refine ⟨_, rfl, rfl, _, rfl, ifF rfl ?_⟩
      refine ⟨_, rfl, rfl, _, rfl, ifF rfl ?_⟩
      refine ⟨_, rfl, rfl, _, rfl, ifF rfl ?_⟩
      refine ⟨_, rfl, rfl, _, rfl, ifF rfl ?_⟩
      refine ⟨_, rfl, rfl, _, rfl, ifF rfl ?_⟩
      refine ⟨_, rfl, rfl, _, rfl, ifF rfl ?_⟩
      refine ⟨_, rfl, rfl, _, rfl, ifF rfl ?_⟩
      refine ⟨_, rfl, rfl, _, rfl, ifF rfl ?_⟩
      refine ⟨_, rfl, rfl, _, rfl, ifF rfl ?_⟩
      refine ⟨_, rfl, rfl, _, rfl, ifF rfl ?_⟩
      refine ⟨_, rfl, rfl, _, rfl, ifT rfl ?_⟩
      refine ⟨_, rfl, a, T.C 13, _, x, rfl, .inr ⟨oe, d, List.mem_singleton.mpr rfl, hd.1, hf, hd.2⟩, T.xf 13 hn, T.x_BadCommand.nf _ (by simp), (by show List.lookup _ [(_, x)] = _; rw [lookup_put, if_pos rfl]), ?_⟩
      exact ⟨(by show 1 ≤ sizeLine; decide), fun p hp => k p _ hp (Ex.new hp) upd_same⟩
    | 14, hn, k, hd =>
      refine ⟨_, rfl, rfl, _, rfl, ifF rfl ?_⟩
      refine ⟨_, rfl, rfl, _, rfl, ifF rfl ?_⟩
      refine ⟨_, rfl, rfl, _, rfl, ifF rfl ?_⟩
      refine ⟨_, rfl, rfl, _, rfl, ifF rfl ?_⟩
      refine ⟨_, rfl, rfl, _, rfl, ifF rfl ?_⟩
      refine ⟨_, rfl, rfl, _, rfl, ifF rfl ?_⟩
      refine ⟨_, rfl, rfl, _, rfl, ifF rfl ?_⟩
      refine ⟨_, rfl, rfl, _, rfl, ifF rfl ?_⟩
      refine ⟨_, rfl, rfl, _, rfl, ifF rfl ?_⟩
      refine ⟨_, rfl, rfl, _, rfl, ifF rfl ?_⟩
      refine ⟨_, rfl, rfl, _, rfl, ifF rfl ?_⟩
      refine ⟨_, rfl, rfl, _, rfl, ifF rfl ?_⟩
      refine ⟨_, rfl, rfl, _, rfl, ifF rfl ?_⟩
      refine ⟨_, rfl, rfl, _, rfl, ifF rfl ?_⟩
      refine ⟨_, rfl, rfl, _, rfl, ifT rfl ?_⟩
      refine ⟨_, rfl, a, T.C 14, _, x, rfl, .inr ⟨oe, d, List.mem_singleton.mpr rfl, hd.1, hf, hd.2⟩, T.xf 14 hn, T.x_NoSuch.nf _ (by simp), (by show List.lookup _ [(_, y), (_, x)] = _; rw [lookup_put, if_neg (by decide +kernel), lookup_put, if_pos rfl]), ?_⟩
      refine ⟨_, rfl, a, T.C 14, _, y, rfl, .inr ⟨oe, d, List.mem_singleton.mpr rfl, hd.1, hf, hd.2⟩, T.xf 14 hn, T.x_NoSuch.nf _ (by simp), (by show List.lookup _ [(_, y), (_, x)] = _; rw [lookup_put, if_pos rfl]), ?_⟩
      exact ⟨(by show 2 ≤ sizeLine; decide), fun p hp => k p _ hp (Ex.new hp) upd_same⟩
    | 15, hn, k, hd =>
      refine ⟨_, rfl, rfl, _, rfl, ifF rfl ?_⟩
      refine ⟨_, rfl, rfl, _, rfl, ifF rfl ?_⟩
      refine ⟨_, rfl, rfl, _, rfl, ifF rfl ?_⟩
      refine ⟨_, rfl, rfl, _, rfl, ifF rfl ?_⟩
      refine ⟨_, rfl, rfl, _, rfl, ifF rfl ?_⟩
      refine ⟨_, rfl, rfl, _, rfl, ifF rfl ?_⟩
      refine ⟨_, rfl, rfl, _, rfl, ifF rfl ?_⟩
      refine ⟨_, rfl, rfl, _, rfl, ifF rfl ?_⟩
      refine ⟨_, rfl, rfl, _, rfl, ifF rfl ?_⟩
      refine ⟨_, rfl, rfl, _, rfl, ifF rfl ?_⟩
      refine ⟨_, rfl, rfl, _, rfl, ifF rfl ?_⟩
      refine ⟨_, rfl, rfl, _, rfl, ifF rfl ?_⟩
      refine ⟨_, rfl, rfl, _, rfl, ifF rfl ?_⟩
      refine ⟨_, rfl, rfl, _, rfl, ifF rfl ?_⟩
      refine ⟨_, rfl, rfl, _, rfl, ifF rfl ?_⟩
      refine ⟨_, rfl, rfl, _, rfl, ifT rfl ?_⟩
      refine ⟨_, rfl, a, T.C 15, _, x, rfl, .inr ⟨oe, d, List.mem_singleton.mpr rfl, hd.1, hf, hd.2⟩, T.xf 15 hn, T.x_Taken.nf _ (by simp), (by show List.lookup _ [(_, x)] = _; rw [lookup_put, if_pos rfl]), ?_⟩
      exact ⟨(by show 1 ≤ sizeLine; decide), fun p hp => k p _ hp (Ex.new hp) upd_same⟩
    | 16, hn, k, hd =>
      refine ⟨_, rfl, rfl, _, rfl, ifF rfl ?_⟩
      refine ⟨_, rfl, rfl, _, rfl, ifF rfl ?_⟩
      refine ⟨_, rfl, rfl, _, rfl, ifF rfl ?_⟩
      refine ⟨_, rfl, rfl, _, rfl, ifF rfl ?_⟩
      refine ⟨_, rfl, rfl, _, rfl, ifF rfl ?_⟩
      refine ⟨_, rfl, rfl, _, rfl, ifF rfl ?_⟩
      refine ⟨_, rfl, rfl, _, rfl, ifF rfl ?_⟩
      refine ⟨_, rfl, rfl, _, rfl, ifF rfl ?_⟩
      refine ⟨_, rfl, rfl, _, rfl, ifF rfl ?_⟩
      refine ⟨_, rfl, rfl, _, rfl, ifF rfl ?_⟩
      refine ⟨_, rfl, rfl, _, rfl, ifF rfl ?_⟩
      refine ⟨_, rfl, rfl, _, rfl, ifF rfl ?_⟩
      refine ⟨_, rfl, rfl, _, rfl, ifF rfl ?_⟩
      refine ⟨_, rfl, rfl, _, rfl, ifF rfl ?_⟩
      refine ⟨_, rfl, rfl, _, rfl, ifF rfl ?_⟩
      refine ⟨_, rfl, rfl, _, rfl, ifF rfl ?_⟩
      refine ⟨_, rfl, rfl, _, rfl, ifT rfl ?_⟩
      refine ⟨_, rfl, a, T.C 16, _, x, rfl, .inr ⟨oe, d, List.mem_singleton.mpr rfl, hd.1, hf, hd.2⟩, T.xf 16 hn, T.x_NoPlan.nf _ (by simp), (by show List.lookup _ [(_, x)] = _; rw [lookup_put, if_pos rfl]), ?_⟩
      exact ⟨(by show 1 ≤ sizeLine; decide), fun p hp => k p _ hp (Ex.new hp) upd_same⟩
    | n + 17, h, _, _ => exact absurd h (by omega)
end
end K98
set_option Elab.async false
set_option linter.all false
set_option maxRecDepth 100000
set_option maxHeartbeats 8000000
namespace K98
open PySem PySem.Spec PyProof.Rows L2 XcV Evl HB
section
variable {P : Program} {w : World} {K : PySem.W.Frag} {mg : Str → Option Value} {base : Heap}
/-! ### _law_raise -/
def spRaise (T : Txt K mg) : Sp := fun vs H _ E => ∃ (n : Nat) (x y : V), vs = [.int n, x, y] ∧ n < 17 ∧ ∀ (d : Addr) (H' : Hp), H d = none → H' d = some (.xd (flds x y n)) → Ex H H' → E (.ref (T.C n)) (some d) H'
theorem ok_raise (T : Txt K mg) : FnOk P w K mg base (L2.CX P w) 3 T.d_law_raise.f T.d_law_raise.fd ["number", "one", "other"] (spRaise T) := by
  refine T.d_law_raise.F.okX sc_law_raise (fun vs H Q E h => ?_) (fun cdv A outer s H vs Q E hr h => ?_)
  · obtain ⟨n, x, y, rfl, _⟩ := h
    rfl
  · obtain ⟨n, x, y, rfl, hn, k⟩ := h
    refine ⟨_, (pss_cons (ps_if (pt_cmpR op_eq (pv 0) pe_int (nomark _)) (pss_one (ps_raise rfl (takes_of rfl rfl rfl rfl) (pmk_oex T.x_BadName.m.T T.x_BadName.m.iC T.x_BadName.m.tI (okI_BadName T.x_BadName) (hr.mono (by first | decide | omega)) (bI_BadName T.x_BadName) .nil pass0 rfl T.x_BadName.g (pa_cons (pv 1) pa_nil))))
  pss_nil)
  (pss_cons (ps_if (pt_cmpR op_eq (pv 0) pe_int (nomark _)) (pss_one (ps_raise rfl (takes_of rfl rfl rfl rfl) (pmk_oex T.x_BadHands.m.T T.x_BadHands.m.iC T.x_BadHands.m.tI (okI_BadHands T.x_BadHands) (hr.mono (by first | decide | omega)) (bI_BadHands T.x_BadHands) .nil pass0 rfl T.x_BadHands.g (pa_cons (pv 1) (pa_cons (pv 2) pa_nil)))))
  pss_nil)
  (pss_cons (ps_if (pt_cmpR op_eq (pv 0) pe_int (nomark _)) (pss_one (ps_raise rfl (takes_of rfl rfl rfl rfl) (pmk_oex T.x_BadCalendar.m.T T.x_BadCalendar.m.iC T.x_BadCalendar.m.tI (okI_BadCalendar T.x_BadCalendar) (hr.mono (by first | decide | omega)) (bI_BadCalendar T.x_BadCalendar) .nil pass0 rfl T.x_BadCalendar.g (pa_cons (pv 1) (pa_cons (pv 2) pa_nil)))))
  pss_nil)
  (pss_cons (ps_if (pt_cmpR op_eq (pv 0) pe_int (nomark _)) (pss_one (ps_raise rfl (takes_of rfl rfl rfl rfl) (pmk_oex T.x_BadSheet.m.T T.x_BadSheet.m.iC T.x_BadSheet.m.tI (okI_BadSheet T.x_BadSheet) (hr.mono (by first | decide | omega)) (bI_BadSheet T.x_BadSheet) .nil pass0 rfl T.x_BadSheet.g (pa_cons (pv 1) (pa_cons (pv 2) pa_nil)))))
  pss_nil)
  (pss_cons (ps_if (pt_cmpR op_eq (pv 0) pe_int (nomark _)) (pss_one (ps_raise rfl (takes_of rfl rfl rfl rfl) (pmk_oex T.x_BadPlan.m.T T.x_BadPlan.m.iC T.x_BadPlan.m.tI (okI_BadPlan T.x_BadPlan) (hr.mono (by first | decide | omega)) (bI_BadPlan T.x_BadPlan) .nil pass0 rfl T.x_BadPlan.g (pa_cons (pv 1) (pa_cons (pv 2) pa_nil)))))
  pss_nil)
  (pss_cons (ps_if (pt_cmpR op_eq (pv 0) pe_int (nomark _)) (pss_one (ps_raise rfl (takes_of rfl rfl rfl rfl) (pmk_oex T.x_BadLadders.m.T T.x_BadLadders.m.iC T.x_BadLadders.m.tI (okI_BadLadders T.x_BadLadders) (hr.mono (by first | decide | omega)) (bI_BadLadders T.x_BadLadders) .nil pass0 rfl T.x_BadLadders.g (pa_cons (pv 1) (pa_cons (pv 2) pa_nil)))))
  pss_nil)
  (pss_cons (ps_if (pt_cmpR op_eq (pv 0) pe_int (nomark _)) (pss_one (ps_raise rfl (takes_of rfl rfl rfl rfl) (pmk_oex T.x_BadHouse.m.T T.x_BadHouse.m.iC T.x_BadHouse.m.tI (okI_BadHouse T.x_BadHouse) (hr.mono (by first | decide | omega)) (bI_BadHouse T.x_BadHouse) .nil pass0 rfl T.x_BadHouse.g (pa_cons (pv 1) (pa_cons (pv 2) pa_nil)))))
  pss_nil)
  (pss_cons (ps_if (pt_cmpR op_eq (pv 0) pe_int (nomark _)) (pss_one (ps_raise rfl (takes_of rfl rfl rfl rfl) (pmk_oex T.x_BadBare.m.T T.x_BadBare.m.iC T.x_BadBare.m.tI (okI_BadBare T.x_BadBare) (hr.mono (by first | decide | omega)) (bI_BadBare T.x_BadBare) .nil pass0 rfl T.x_BadBare.g (pa_cons (pv 1) (pa_cons (pv 2) pa_nil)))))
  pss_nil)
  (pss_cons (ps_if (pt_cmpR op_eq (pv 0) pe_int (nomark _)) (pss_one (ps_raise rfl (takes_of rfl rfl rfl rfl) (pmk_oex T.x_BadJobs.m.T T.x_BadJobs.m.iC T.x_BadJobs.m.tI (okI_BadJobs T.x_BadJobs) (hr.mono (by first | decide | omega)) (bI_BadJobs T.x_BadJobs) .nil pass0 rfl T.x_BadJobs.g (pa_cons (pv 1) (pa_cons (pv 2) pa_nil)))))
  pss_nil)
  (pss_cons (ps_if (pt_cmpR op_eq (pv 0) pe_int (nomark _)) (pss_one (ps_raise rfl (takes_of rfl rfl rfl rfl) (pmk_oex T.x_BadJournal.m.T T.x_BadJournal.m.iC T.x_BadJournal.m.tI (okI_BadJournal T.x_BadJournal) (hr.mono (by first | decide | omega)) (bI_BadJournal T.x_BadJournal) .nil pass0 rfl T.x_BadJournal.g (pa_cons (pv 1) (pa_cons (pv 2) pa_nil)))))
  pss_nil)
  (pss_cons (ps_if (pt_cmpR op_eq (pv 0) pe_int (nomark _)) (pss_one (ps_raise rfl (takes_of rfl rfl rfl rfl) (pmk_oex T.x_BadClaim.m.T T.x_BadClaim.m.iC T.x_BadClaim.m.tI (okI_BadClaim T.x_BadClaim) (hr.mono (by first | decide | omega)) (bI_BadClaim T.x_BadClaim) .nil pass0 rfl T.x_BadClaim.g (pa_cons (pv 1) pa_nil))))
  pss_nil)
  (pss_cons (ps_if (pt_cmpR op_eq (pv 0) pe_int (nomark _)) (pss_one (ps_raise rfl (takes_of rfl rfl rfl rfl) (pmk_oex T.x_BadStep.m.T T.x_BadStep.m.iC T.x_BadStep.m.tI (okI_BadStep T.x_BadStep) (hr.mono (by first | decide | omega)) (bI_BadStep T.x_BadStep) .nil pass0 rfl T.x_BadStep.g (pa_cons (pv 1) pa_nil))))
  pss_nil)
  (pss_cons (ps_if (pt_cmpR op_eq (pv 0) pe_int (nomark _)) (pss_one (ps_raise rfl (takes_of rfl rfl rfl rfl) (pmk_oex T.x_BadText.m.T T.x_BadText.m.iC T.x_BadText.m.tI (okI_BadText T.x_BadText) (hr.mono (by first | decide | omega)) (bI_BadText T.x_BadText) .nil pass0 rfl T.x_BadText.g (pa_cons (pv 1) (pa_cons (pv 2) pa_nil)))))
  pss_nil)
  (pss_cons (ps_if (pt_cmpR op_eq (pv 0) pe_int (nomark _)) (pss_one (ps_raise rfl (takes_of rfl rfl rfl rfl) (pmk_oex T.x_BadCommand.m.T T.x_BadCommand.m.iC T.x_BadCommand.m.tI (okI_BadCommand T.x_BadCommand) (hr.mono (by first | decide | omega)) (bI_BadCommand T.x_BadCommand) .nil pass0 rfl T.x_BadCommand.g (pa_cons (pv 1) pa_nil))))
  pss_nil)
  (pss_cons (ps_if (pt_cmpR op_eq (pv 0) pe_int (nomark _)) (pss_one (ps_raise rfl (takes_of rfl rfl rfl rfl) (pmk_oex T.x_NoSuch.m.T T.x_NoSuch.m.iC T.x_NoSuch.m.tI (okI_NoSuch T.x_NoSuch) (hr.mono (by first | decide | omega)) (bI_NoSuch T.x_NoSuch) .nil pass0 rfl T.x_NoSuch.g (pa_cons (pv 1) (pa_cons (pv 2) pa_nil)))))
  pss_nil)
  (pss_cons (ps_if (pt_cmpR op_eq (pv 0) pe_int (nomark _)) (pss_one (ps_raise rfl (takes_of rfl rfl rfl rfl) (pmk_oex T.x_Taken.m.T T.x_Taken.m.iC T.x_Taken.m.tI (okI_Taken T.x_Taken) (hr.mono (by first | decide | omega)) (bI_Taken T.x_Taken) .nil pass0 rfl T.x_Taken.g (pa_cons (pv 1) pa_nil))))
  pss_nil)
  (pss_one (ps_if (pt_cmpR op_eq (pv 0) pe_int (nomark _)) (pss_one (ps_raise rfl (takes_of rfl rfl rfl rfl) (pmk_oex T.x_NoPlan.m.T T.x_NoPlan.m.iC T.x_NoPlan.m.tI (okI_NoPlan T.x_NoPlan) (hr.mono (by first | decide | omega)) (bI_NoPlan T.x_NoPlan) .nil pass0 rfl T.x_NoPlan.g (pa_cons (pv 1) pa_nil))))
  pss_nil)))))))))))))))))), ?_⟩
    have fin : ∀ {a d : Addr} {H1 : Hp} {fs : List (Str × V)} {u : HO}, H a = none → upd H a u d = none → d ≠ a → (∀ b o, b ≠ a → upd H a u b = some o → H1 b = some o) → Ex H (upd (del H1 a) d (.xd fs)) := fun {a d H1 fs u} ha hd hda h3 b o e => by
      have nd : H d = none := by
        rw [upd_ne hda] at hd
        exact hd
      rw [upd_ne (ne_of_none e nd), del_ne (ne_of_none e ha)]
      exact h3 b o (ne_of_none e ha) (by rw [upd_ne (ne_of_none e ha)]; exact e)
    match n, hn, k with
    | 0, _, k =>
      refine ⟨_, rfl, rfl, _, rfl, ifT rfl ?_⟩
      exact ⟨_, rfl, (by show 1 ≤ 1000; decide), fun a ha => ⟨a, [x], rfl, rfl, upd_same, fun d H1 hd hda h1 h2 h3 => ⟨rfl, d, _, h1, h2, (by rw [upd_ne hda] at hd; exact hd), k d _ (by rw [upd_ne hda] at hd; exact hd) upd_same (fin ha hd hda h3)⟩⟩⟩
    | 1, _, k =>
      refine ⟨_, rfl, rfl, _, rfl, ifF rfl ?_⟩
      refine ⟨_, rfl, rfl, _, rfl, ifT rfl ?_⟩
      exact ⟨_, rfl, _, rfl, (by show 2 ≤ 1000; decide), fun a ha => ⟨a, [x, y], rfl, rfl, upd_same, fun d H1 hd hda h1 h2 h3 => ⟨rfl, d, _, h1, h2, (by rw [upd_ne hda] at hd; exact hd), k d _ (by rw [upd_ne hda] at hd; exact hd) upd_same (fin ha hd hda h3)⟩⟩⟩
    | 2, _, k =>
      refine ⟨_, rfl, rfl, _, rfl, ifF rfl ?_⟩
      refine ⟨_, rfl, rfl, _, rfl, ifF rfl ?_⟩
      refine ⟨_, rfl, rfl, _, rfl, ifT rfl ?_⟩
      exact ⟨_, rfl, _, rfl, (by show 2 ≤ 1000; decide), fun a ha => ⟨a, [x, y], rfl, rfl, upd_same, fun d H1 hd hda h1 h2 h3 => ⟨rfl, d, _, h1, h2, (by rw [upd_ne hda] at hd; exact hd), k d _ (by rw [upd_ne hda] at hd; exact hd) upd_same (fin ha hd hda h3)⟩⟩⟩
    | 3, _, k =>
      refine ⟨_, rfl, rfl, _, rfl, ifF rfl ?_⟩
      refine ⟨_, rfl, rfl, _, rfl, ifF rfl ?_⟩
      refine ⟨_, rfl, rfl, _, rfl, ifF rfl ?_⟩
      refine ⟨_, rfl, rfl, _, rfl, ifT rfl ?_⟩
      exact ⟨_, rfl, _, rfl, (by show 2 ≤ 1000; decide), fun a ha => ⟨a, [x, y], rfl, rfl, upd_same, fun d H1 hd hda h1 h2 h3 => ⟨rfl, d, _, h1, h2, (by rw [upd_ne hda] at hd; exact hd), k d _ (by rw [upd_ne hda] at hd; exact hd) upd_same (fin ha hd hda h3)⟩⟩⟩
    | 4, _, k =>
      refine ⟨_, rfl, rfl, _, rfl, ifF rfl ?_⟩
      refine ⟨_, rfl, rfl, _, rfl, ifF rfl ?_⟩
      refine ⟨_, rfl, rfl, _, rfl, ifF rfl ?_⟩
      refine ⟨_, rfl, rfl, _, rfl, ifF rfl ?_⟩
      refine ⟨_, rfl, rfl, _, rfl, ifT rfl ?_⟩
      exact ⟨_, rfl, _, rfl, (by show 2 ≤ 1000; decide), fun a ha => ⟨a, [x, y], rfl, rfl, upd_same, fun d H1 hd hda h1 h2 h3 => ⟨rfl, d, _, h1, h2, (by rw [upd_ne hda] at hd; exact hd), k d _ (by rw [upd_ne hda] at hd; exact hd) upd_same (fin ha hd hda h3)⟩⟩⟩
    | 5, _, k =>
      refine ⟨_, rfl, rfl, _, rfl, ifF rfl ?_⟩
      refine ⟨_, rfl, rfl, _, rfl, ifF rfl ?_⟩
      refine ⟨_, rfl, rfl, _, rfl, ifF rfl ?_⟩
      refine ⟨_, rfl, rfl, _, rfl, ifF rfl ?_⟩
      refine ⟨_, rfl, rfl, _, rfl, ifF rfl ?_⟩
      refine ⟨_, rfl, rfl, _, rfl, ifT rfl ?_⟩
      exact ⟨_, rfl, _, rfl, (by show 2 ≤ 1000; decide), fun a ha => ⟨a, [x, y], rfl, rfl, upd_same, fun d H1 hd hda h1 h2 h3 => ⟨rfl, d, _, h1, h2, (by rw [upd_ne hda] at hd; exact hd), k d _ (by rw [upd_ne hda] at hd; exact hd) upd_same (fin ha hd hda h3)⟩⟩⟩
    | 6, _, k =>
      refine ⟨_, rfl, rfl, _, rfl, ifF rfl ?_⟩
      refine ⟨_, rfl, rfl, _, rfl, ifF rfl ?_⟩
      refine ⟨_, rfl, rfl, _, rfl, ifF rfl ?_⟩
      refine ⟨_, rfl, rfl, _, rfl, ifF rfl ?_⟩
      refine ⟨_, rfl, rfl, _, rfl, ifF rfl ?_⟩
      refine ⟨_, rfl, rfl, _, rfl, ifF rfl ?_⟩
      refine ⟨_, rfl, rfl, _, rfl, ifT rfl ?_⟩
      exact ⟨_, rfl, _, rfl, (by show 2 ≤ 1000; decide), fun a ha => ⟨a, [x, y], rfl, rfl, upd_same, fun d H1 hd hda h1 h2 h3 => ⟨rfl, d, _, h1, h2, (by rw [upd_ne hda] at hd; exact hd), k d _ (by rw [upd_ne hda] at hd; exact hd) upd_same (fin ha hd hda h3)⟩⟩⟩
    | 7, _, k =>
      refine ⟨_, rfl, rfl, _, rfl, ifF rfl ?_⟩
      refine ⟨_, rfl, rfl, _, rfl, ifF rfl ?_⟩
      refine ⟨_, rfl, rfl, _, rfl, ifF rfl ?_⟩
      refine ⟨_, rfl, rfl, _, rfl, ifF rfl ?_⟩
      refine ⟨_, rfl, rfl, _, rfl, ifF rfl ?_⟩
      refine ⟨_, rfl, rfl, _, rfl, ifF rfl ?_⟩
      refine ⟨_, rfl, rfl, _, rfl, ifF rfl ?_⟩
      refine ⟨_, rfl, rfl, _, rfl, ifT rfl ?_⟩
      exact ⟨_, rfl, _, rfl, (by show 2 ≤ 1000; decide), fun a ha => ⟨a, [x, y], rfl, rfl, upd_same, fun d H1 hd hda h1 h2 h3 => ⟨rfl, d, _, h1, h2, (by rw [upd_ne hda] at hd; exact hd), k d _ (by rw [upd_ne hda] at hd; exact hd) upd_same (fin ha hd hda h3)⟩⟩⟩
    | 8, _, k =>
      refine ⟨_, rfl, rfl, _, rfl, ifF rfl ?_⟩
      refine ⟨_, rfl, rfl, _, rfl, ifF rfl ?_⟩
      refine ⟨_, rfl, rfl, _, rfl, ifF rfl ?_⟩
      refine ⟨_, rfl, rfl, _, rfl, ifF rfl ?_⟩
      refine ⟨_, rfl, rfl, _, rfl, ifF rfl ?_⟩
      refine ⟨_, rfl, rfl, _, rfl, ifF rfl ?_⟩
      refine ⟨_, rfl, rfl, _, rfl, ifF rfl ?_⟩
      refine ⟨_, rfl, rfl, _, rfl, ifF rfl ?_⟩
      refine ⟨_, rfl, rfl, _, rfl, ifT rfl ?_⟩
      exact ⟨_, rfl, _, rfl, (by show 2 ≤ 1000; decide), fun a ha => ⟨a, [x, y], rfl, rfl, upd_same, fun d H1 hd hda h1 h2 h3 => ⟨rfl, d, _, h1, h2, (by rw [upd_ne hda] at hd; exact hd), k d _ (by rw [upd_ne hda] at hd; exact hd) upd_same (fin ha hd hda h3)⟩⟩⟩
    | 9, _, k =>
      refine ⟨_, rfl, rfl, _, rfl, ifF rfl ?_⟩
      refine ⟨_, rfl, rfl, _, rfl, ifF rfl ?_⟩
      refine ⟨_, rfl, rfl, _, rfl, ifF rfl ?_⟩
      refine ⟨_, rfl, rfl, _, rfl, ifF rfl ?_⟩
      refine ⟨_, rfl, rfl, _, rfl, ifF rfl ?_⟩
      refine ⟨_, rfl, rfl, _, rfl, ifF rfl ?_⟩
      refine ⟨_, rfl, rfl, _, rfl, ifF rfl ?_⟩
      refine ⟨_, rfl, rfl, _, rfl, ifF rfl ?_⟩
      refine ⟨_, rfl, rfl, _, rfl, ifF rfl ?_⟩
      refine ⟨_, rfl, rfl, _, rfl, ifT rfl ?_⟩
      exact ⟨_, rfl, _, rfl, (by show 2 ≤ 1000; decide), fun a ha => ⟨a, [x, y], rfl, rfl, upd_same, fun d H1 hd hda h1 h2 h3 => ⟨rfl, d, _, h1, h2, (by rw [upd_ne hda] at hd; exact hd), k d _ (by rw [upd_ne hda] at hd; exact hd) upd_same (fin ha hd hda h3)⟩⟩⟩
    | 10, _, k =>
      refine ⟨_, rfl, rfl, _, rfl, ifF rfl ?_⟩
      refine ⟨_, rfl, rfl, _, rfl, ifF rfl ?_⟩
      refine ⟨_, rfl, rfl, _, rfl, ifF rfl ?_⟩
      refine ⟨_, rfl, rfl, _, rfl, ifF rfl ?_⟩
      refine ⟨_, rfl, rfl, _, rfl, ifF rfl ?_⟩
      refine ⟨_, rfl, rfl, _, rfl, ifF rfl ?_⟩
      refine ⟨_, rfl, rfl, _, rfl, ifF rfl ?_⟩
      refine ⟨_, rfl, rfl, _, rfl, ifF rfl ?_⟩
      refine ⟨_, rfl, rfl, _, rfl, ifF rfl ?_⟩
      refine ⟨_, rfl, rfl, _, rfl, ifF rfl ?_⟩
      refine ⟨_, rfl, rfl, _, rfl, ifT rfl ?_⟩
      exact ⟨_, rfl, (by show 1 ≤ 1000; decide), fun a ha => ⟨a, [x], rfl, rfl, upd_same, fun d H1 hd hda h1 h2 h3 => ⟨rfl, d, _, h1, h2, (by rw [upd_ne hda] at hd; exact hd), k d _ (by rw [upd_ne hda] at hd; exact hd) upd_same (fin ha hd hda h3)⟩⟩⟩
    | 11, _, k =>
      refine ⟨_, rfl, rfl, _, rfl, ifF rfl ?_⟩
      refine ⟨_, rfl, rfl, _, rfl, ifF rfl ?_⟩
      refine ⟨_, rfl, rfl, _, rfl, ifF rfl ?_⟩
      refine ⟨_, rfl, rfl, _, rfl, ifF rfl ?_⟩
      refine ⟨_, rfl, rfl, _, rfl, ifF rfl ?_⟩
      refine ⟨_, rfl, rfl, _, rfl, ifF rfl ?_⟩
      refine ⟨_, rfl, rfl, _, rfl, ifF rfl ?_⟩
      refine ⟨_, rfl, rfl, _, rfl, ifF rfl ?_⟩
      refine ⟨_, rfl, rfl, _, rfl, ifF rfl ?_⟩
      refine ⟨_, rfl, rfl, _, rfl, ifF rfl ?_⟩
      refine ⟨_, rfl, rfl, _, rfl, ifF rfl ?_⟩
      refine ⟨_, rfl, rfl, _, rfl, ifT rfl ?_⟩
      exact ⟨_, rfl, (by show 1 ≤ 1000; decide), fun a ha => ⟨a, [x], rfl, rfl, upd_same, fun d H1 hd hda h1 h2 h3 => ⟨rfl, d, _, h1, h2, (by rw [upd_ne hda] at hd; exact hd), k d _ (by rw [upd_ne hda] at hd; exact hd) upd_same (fin ha hd hda h3)⟩⟩⟩
    | 12, _, k =>
      refine ⟨_, rfl, rfl, _, rfl, ifF rfl ?_⟩
      refine ⟨_, rfl, rfl, _, rfl, ifF rfl ?_⟩
      refine ⟨_, rfl, rfl, _, rfl, ifF rfl ?_⟩
      refine ⟨_, rfl, rfl, _, rfl, ifF rfl ?_⟩
      refine ⟨_, rfl, rfl, _, rfl, ifF rfl ?_⟩
      refine ⟨_, rfl, rfl, _, rfl, ifF rfl ?_⟩
      refine ⟨_, rfl, rfl, _, rfl, ifF rfl ?_⟩
      refine ⟨_, rfl, rfl, _, rfl, ifF rfl ?_⟩
      refine ⟨_, rfl, rfl, _, rfl, ifF rfl ?_⟩
      refine ⟨_, rfl, rfl, _, rfl, ifF rfl ?_⟩
      refine ⟨_, rfl, rfl, _, rfl, ifF rfl ?_⟩
      refine ⟨_, rfl, rfl, _, rfl, ifF rfl ?_⟩
      refine ⟨_, rfl, rfl, _, rfl, ifT rfl ?_⟩
      exact ⟨_, rfl, _, rfl, (by show 2 ≤ 1000; decide), fun a ha => ⟨a, [x, y], rfl, rfl, upd_same, fun d H1 hd hda h1 h2 h3 => ⟨rfl, d, _, h1, h2, (by rw [upd_ne hda] at hd; exact hd), k d _ (by rw [upd_ne hda] at hd; exact hd) upd_same (fin ha hd hda h3)⟩⟩⟩
    | 13, _, k =>
      refine ⟨_, rfl, rfl, _, rfl, ifF rfl ?_⟩
      refine ⟨_, rfl, rfl, _, rfl, ifF rfl ?_⟩
      refine ⟨_, rfl, rfl, _, rfl, ifF rfl ?_⟩
      refine ⟨_, rfl, rfl, _, rfl, ifF rfl ?_⟩
      refine ⟨_, rfl, rfl, _, rfl, ifF rfl ?_⟩
      refine ⟨_, rfl, rfl, _, rfl, ifF rfl ?_⟩
      refine ⟨_, rfl, rfl, _, rfl, ifF rfl ?_⟩
      refine ⟨_, rfl, rfl, _, rfl, ifF rfl ?_⟩
      refine ⟨_, rfl, rfl, _, rfl, ifF rfl ?_⟩
      refine ⟨_, rfl, rfl, _, rfl, ifF rfl ?_⟩
      refine ⟨_, rfl, rfl, _, rfl, ifF rfl ?_⟩
      refine ⟨_, rfl, rfl, _, rfl, ifF rfl ?_⟩
      refine ⟨_, rfl, rfl, _, rfl, ifF rfl ?_⟩
      refine ⟨_, rfl, rfl, _, rfl, ifT rfl ?_⟩
      exact ⟨_, rfl, (by show 1 ≤ 1000; decide), fun a ha => ⟨a, [x], rfl, rfl, upd_same, fun d H1 hd hda h1 h2 h3 => ⟨rfl, d, _, h1, h2, (by rw [upd_ne hda] at hd; exact hd), k d _ (by rw [upd_ne hda] at hd; exact hd) upd_same (fin ha hd hda h3)⟩⟩⟩
    | 14, _, k =>
      refine ⟨_, rfl, rfl, _, rfl, ifF rfl ?_⟩
      refine ⟨_, rfl, rfl, _, rfl, ifF rfl ?_⟩
      refine ⟨_, rfl, rfl, _, rfl, ifF rfl ?_⟩
      refine ⟨_, rfl, rfl, _, rfl, ifF rfl ?_⟩
      refine ⟨_, rfl, rfl, _, rfl, ifF rfl ?_⟩
      refine ⟨_, rfl, rfl, _, rfl, ifF rfl ?_⟩
      refine ⟨_, rfl, rfl, _, rfl, ifF rfl ?_⟩
      refine ⟨_, rfl, rfl, _, rfl, ifF rfl ?_⟩
      refine ⟨_, rfl, rfl, _, rfl, ifF rfl ?_⟩
      refine ⟨_, rfl, rfl, _, rfl, ifF rfl ?_⟩
      refine ⟨_, rfl, rfl, _, rfl, ifF rfl ?_⟩
      refine ⟨_, rfl, rfl, _, rfl, ifF rfl ?_⟩
      refine ⟨_, rfl, rfl, _, rfl, ifF rfl ?_⟩
      refine ⟨_, rfl, rfl, _, rfl, ifF rfl ?_⟩
      refine ⟨_, rfl, rfl, _, rfl, ifT rfl ?_⟩
      exact ⟨_, rfl, _, rfl, (by show 2 ≤ 1000; decide), fun a ha => ⟨a, [x, y], rfl, rfl, upd_same, fun d H1 hd hda h1 h2 h3 => ⟨rfl, d, _, h1, h2, (by rw [upd_ne hda] at hd; exact hd), k d _ (by rw [upd_ne hda] at hd; exact hd) upd_same (fin ha hd hda h3)⟩⟩⟩
    | 15, _, k =>
      refine ⟨_, rfl, rfl, _, rfl, ifF rfl ?_⟩
      refine ⟨_, rfl, rfl, _, rfl, ifF rfl ?_⟩
      refine ⟨_, rfl, rfl, _, rfl, ifF rfl ?_⟩
      refine ⟨_, rfl, rfl, _, rfl, ifF rfl ?_⟩
      refine ⟨_, rfl, rfl, _, rfl, ifF rfl ?_⟩
      refine ⟨_, rfl, rfl, _, rfl, ifF rfl ?_⟩
      refine ⟨_, rfl, rfl, _, rfl, ifF rfl ?_⟩
      refine ⟨_, rfl, rfl, _, rfl, ifF rfl ?_⟩
      refine ⟨_, rfl, rfl, _, rfl, ifF rfl ?_⟩
      refine ⟨_, rfl, rfl, _, rfl, ifF rfl ?_⟩
      refine ⟨_, rfl, rfl, _, rfl, ifF rfl ?_⟩
      refine ⟨_, rfl, rfl, _, rfl, ifF rfl ?_⟩
      refine ⟨_, rfl, rfl, _, rfl, ifF rfl ?_⟩
      refine ⟨_, rfl, rfl, _, rfl, ifF rfl ?_⟩
      refine ⟨_, rfl, rfl, _, rfl, ifF rfl ?_⟩
      refine ⟨_, rfl, rfl, _, rfl, ifT rfl ?_⟩
      exact ⟨_, rfl, (by show 1 ≤ 1000; decide), fun a ha => ⟨a, [x], rfl, rfl, upd_same, fun d H1 hd hda h1 h2 h3 => ⟨rfl, d, _, h1, h2, (by rw [upd_ne hda] at hd; exact hd), k d _ (by rw [upd_ne hda] at hd; exact hd) upd_same (fin ha hd hda h3)⟩⟩⟩
    | 16, _, k =>
      refine ⟨_, rfl, rfl, _, rfl, ifF rfl ?_⟩
      refine ⟨_, rfl, rfl, _, rfl, ifF rfl ?_⟩
      refine ⟨_, rfl, rfl, _, rfl, ifF rfl ?_⟩
      refine ⟨_, rfl, rfl, _, rfl, ifF rfl ?_⟩
      refine ⟨_, rfl, rfl, _, rfl, ifF rfl ?_⟩
      refine ⟨_, rfl, rfl, _, rfl, ifF rfl ?_⟩
      refine ⟨_, rfl, rfl, _, rfl, ifF rfl ?_⟩
      refine ⟨_, rfl, rfl, _, rfl, ifF rfl ?_⟩
      refine ⟨_, rfl, rfl, _, rfl, ifF rfl ?_⟩
      refine ⟨_, rfl, rfl, _, rfl, ifF rfl ?_⟩
      refine ⟨_, rfl, rfl, _, rfl, ifF rfl ?_⟩
      refine ⟨_, rfl, rfl, _, rfl, ifF rfl ?_⟩
      refine ⟨_, rfl, rfl, _, rfl, ifF rfl ?_⟩
      refine ⟨_, rfl, rfl, _, rfl, ifF rfl ?_⟩
      refine ⟨_, rfl, rfl, _, rfl, ifF rfl ?_⟩
      refine ⟨_, rfl, rfl, _, rfl, ifF rfl ?_⟩
      refine ⟨_, rfl, rfl, _, rfl, ifT rfl ?_⟩
      exact ⟨_, rfl, (by show 1 ≤ 1000; decide), fun a ha => ⟨a, [x], rfl, rfl, upd_same, fun d H1 hd hda h1 h2 h3 => ⟨rfl, d, _, h1, h2, (by rw [upd_ne hda] at hd; exact hd), k d _ (by rw [upd_ne hda] at hd; exact hd) upd_same (fin ha hd hda h3)⟩⟩⟩
    | n + 17, h, _ => exact absurd h (by omega)
/-! ### _law_caught -/
theorem rmH {k : Nat} {A : Around} {v : Option Value} (r : Room k A) : L2H.RoomH k (A.mark v) := ⟨r.dp, r.un⟩
theorem famLt (n : Nat) : famOf n < 4 := by
  unfold famOf
  split
  · omega
  · split
    · omega
    · split <;> omega
def spCaught : Sp := fun vs H Q _ => ∃ (n : Nat) (x y : V), vs = [.int n, x, y] ∧ n < 17 ∧ ∀ (q p : Addr) (H' : Hp), H q = none → H p = none → H' q = some (.tup [.int (famOf n : Nat), .ref p]) → H' p = some (.lst (ysOf x y n)) → Ex H H' → Q (.ref q) H'
theorem ok_caught (T : Txt K mg) (Z : Kit T) : FnOk P w K mg base CX0 4 T.d_law_caught.f T.d_law_caught.fd ["number", "one", "other"] spCaught := by
  have G_law_raise : FnOk P w K mg base (L2.CX P w) 3 T.d_law_raise.f T.d_law_raise.fd ["number", "one", "other"] (spRaise T) := ok_raise T
  refine T.d_law_caught.F.ok sc_law_caught (fun vs H Q E h => ?_) (fun cdv A outer s H vs Q E hr h => ?_)
  · obtain ⟨n, x, y, rfl, _⟩ := h
    rfl
  · obtain ⟨n, x, y, rfl, hn, k⟩ := h
    refine ⟨_, (pss_cons (ps_try_mix rfl rfl takes0
      (fun W pn xe tk _ => pss_one (ps_expr (pe_callS G_law_raise hr rfl T.d_law_raise.g T.d_law_raise.k T.d_law_raise.b (fun σ => passAt tk σ) (pa_cons (pv 0) (pa_cons (pv 1) (pa_cons (pv 2) pa_nil))))))
      (.as_ (i := 3) ⟨rfl, rfl, .inl T.x_DataError.g⟩ sc_law_caught.nd rfl rfl (fun a oe cls d pn hz hf => (pss_one (ps_ret (pe_ifExp (pt_val (pe_callP List.mem_cons_self hz hf (ok_isP T Z) (rmH (hr.mono (by decide))) rfl T.d_law_is.g T.d_law_is.k T.d_law_is.b (pa_cons (pv 0) (pa_cons (pv 3) pa_nil)))) (pe_tup (pa_cons pe_int (pa_cons (pe_callP List.mem_cons_self hz hf (ok_fieldsP T) (rmH (hr.mono (by decide))) rfl T.d_law_fields.g T.d_law_fields.k T.d_law_fields.b (pa_cons (pv 0) (pa_cons (pv 3) pa_nil))) pa_nil))) pe_non))))
      (.as_ (i := 3) ⟨rfl, rfl, .inl T.x_CallError.g⟩ sc_law_caught.nd rfl rfl (fun a oe cls d pn hz hf => (pss_one (ps_ret (pe_ifExp (pt_val (pe_callP List.mem_cons_self hz hf (ok_isP T Z) (rmH (hr.mono (by decide))) rfl T.d_law_is.g T.d_law_is.k T.d_law_is.b (pa_cons (pv 0) (pa_cons (pv 3) pa_nil)))) (pe_tup (pa_cons pe_int (pa_cons (pe_callP List.mem_cons_self hz hf (ok_fieldsP T) (rmH (hr.mono (by decide))) rfl T.d_law_fields.g T.d_law_fields.k T.d_law_fields.b (pa_cons (pv 0) (pa_cons (pv 3) pa_nil))) pa_nil))) pe_non))))
      (.as_ (i := 3) ⟨rfl, rfl, .inl T.x_TextError.g⟩ sc_law_caught.nd rfl rfl (fun a oe cls d pn hz hf => (pss_one (ps_ret (pe_ifExp (pt_val (pe_callP List.mem_cons_self hz hf (ok_isP T Z) (rmH (hr.mono (by decide))) rfl T.d_law_is.g T.d_law_is.k T.d_law_is.b (pa_cons (pv 0) (pa_cons (pv 3) pa_nil)))) (pe_tup (pa_cons pe_int (pa_cons (pe_callP List.mem_cons_self hz hf (ok_fieldsP T) (rmH (hr.mono (by decide))) rfl T.d_law_fields.g T.d_law_fields.k T.d_law_fields.b (pa_cons (pv 0) (pa_cons (pv 3) pa_nil))) pa_nil))) pe_non))))
      (.as_ (i := 3) ⟨rfl, rfl, .inl T.x_DeskError.g⟩ sc_law_caught.nd rfl rfl (fun a oe cls d pn hz hf => (pss_one (ps_ret (pe_ifExp (pt_val (pe_callP List.mem_cons_self hz hf (ok_isP T Z) (rmH (hr.mono (by decide))) rfl T.d_law_is.g T.d_law_is.k T.d_law_is.b (pa_cons (pv 0) (pa_cons (pv 3) pa_nil)))) (pe_tup (pa_cons pe_int (pa_cons (pe_callP List.mem_cons_self hz hf (ok_fieldsP T) (rmH (hr.mono (by decide))) rfl T.d_law_fields.g T.d_law_fields.k T.d_law_fields.b (pa_cons (pv 0) (pa_cons (pv 3) pa_nil))) pa_nil))) pe_non))))
      (.bare ⟨rfl, rfl, .inl T.x_PlanError.g⟩ (fun a oe cls d pn hz hf => (pss_one (ps_ret pe_non))) .nil))))))
      (pss_one (ps_ret pe_non))), ?_⟩
    refine ⟨_, rfl, _, rfl, _, rfl, n, x, y, rfl, hn, fun d H1 hd h1 hx => ?_⟩
    refine ⟨_, Z.exm n 0 hn (by decide), fun e a na => ?_, fun c0 => ?_⟩
    · have e' : famOf n = 0 := of_decide_eq_true e
      refine ⟨_, rfl, _, rfl, n, n, d, _, rfl, hn, hn, rfl, rfl, h1, _, rfl, ifT (decide_eq_true rfl) ?_⟩
      refine ⟨_, rfl, _, rfl, n, d, x, y, rfl, hn, rfl, rfl, h1, fun p H2 hp hx2 hl => ⟨(by show 2 ≤ sizeLine; decide), fun q hq => ?_⟩⟩
      refine k q p _ (fresh_back (hx.trans hx2) hq) (fresh_back hx hp) (by rw [e']; exact upd_same) (by rw [upd_ne (ne_of_none hl hq)]; exact hl) ((hx.trans hx2).trans (Ex.new hq))
    refine ⟨_, Z.exm n 1 hn (by decide), fun e a na => ?_, fun c1 => ?_⟩
    · have e' : famOf n = 1 := of_decide_eq_true e
      refine ⟨_, rfl, _, rfl, n, n, d, _, rfl, hn, hn, rfl, rfl, h1, _, rfl, ifT (decide_eq_true rfl) ?_⟩
      refine ⟨_, rfl, _, rfl, n, d, x, y, rfl, hn, rfl, rfl, h1, fun p H2 hp hx2 hl => ⟨(by show 2 ≤ sizeLine; decide), fun q hq => ?_⟩⟩
      refine k q p _ (fresh_back (hx.trans hx2) hq) (fresh_back hx hp) (by rw [e']; exact upd_same) (by rw [upd_ne (ne_of_none hl hq)]; exact hl) ((hx.trans hx2).trans (Ex.new hq))
    refine ⟨_, Z.exm n 2 hn (by decide), fun e a na => ?_, fun c2 => ?_⟩
    · have e' : famOf n = 2 := of_decide_eq_true e
      refine ⟨_, rfl, _, rfl, n, n, d, _, rfl, hn, hn, rfl, rfl, h1, _, rfl, ifT (decide_eq_true rfl) ?_⟩
      refine ⟨_, rfl, _, rfl, n, d, x, y, rfl, hn, rfl, rfl, h1, fun p H2 hp hx2 hl => ⟨(by show 2 ≤ sizeLine; decide), fun q hq => ?_⟩⟩
      refine k q p _ (fresh_back (hx.trans hx2) hq) (fresh_back hx hp) (by rw [e']; exact upd_same) (by rw [upd_ne (ne_of_none hl hq)]; exact hl) ((hx.trans hx2).trans (Ex.new hq))
    refine ⟨_, Z.exm n 3 hn (by decide), fun e a na => ?_, fun c3 => ?_⟩
    · have e' : famOf n = 3 := of_decide_eq_true e
      refine ⟨_, rfl, _, rfl, n, n, d, _, rfl, hn, hn, rfl, rfl, h1, _, rfl, ifT (decide_eq_true rfl) ?_⟩
      refine ⟨_, rfl, _, rfl, n, d, x, y, rfl, hn, rfl, rfl, h1, fun p H2 hp hx2 hl => ⟨(by show 2 ≤ sizeLine; decide), fun q hq => ?_⟩⟩
      refine k q p _ (fresh_back (hx.trans hx2) hq) (fresh_back hx hp) (by rw [e']; exact upd_same) (by rw [upd_ne (ne_of_none hl hq)]; exact hl) ((hx.trans hx2).trans (Ex.new hq))
    have f := famLt n
    have f0 : famOf n ≠ 0 := of_decide_eq_false c0
    have f1 : famOf n ≠ 1 := of_decide_eq_false c1
    have f2 : famOf n ≠ 2 := of_decide_eq_false c2
    have f3 : famOf n ≠ 3 := of_decide_eq_false c3
    omega
end
end K98
set_option Elab.async false
set_option linter.all false
set_option maxRecDepth 100000
set_option maxHeartbeats 8000000
namespace K98
open PySem PySem.Spec PyProof.Rows L2 XcV Evl HB
section
variable {P : Program} {w : World} {K : PySem.W.Frag} {mg : Str → Option Value} {base : Heap}
/-! ### _law_holds -/
theorem PoolAt.ex {H H' : Hp} {p c : Addr} {ns : List Int} {k : Int} (h : PoolAt H p c ns k) (e : Ex H H') : PoolAt H' p c ns k := ⟨e _ _ h.hp, e _ _ h.hc, h.ne, h.k0⟩
theorem rep_fr {H H' : Hp} {p c : Addr} {ns : List Int} {k : Int} {v : V} {d : D} (hP : PoolAt H p c ns k) (r : Rep (fr H H') v d) : Rep (hid [p, c] H') v d := r.mono fun b o e => by
  obtain ⟨e2, e3⟩ := fr_some e
  rw [hid_out (hP.out e2)]
  exact e3
theorem rp1 {H : Hp} {x : V} {dx : D} (rx : Rep H x dx) : ∀ (i : Nat) (v : V) (d : D), [x][i]? = some v → [dx][i]? = some d → Rep H v d
  | 0, _, _, e1, e2 => by
    cases Option.some.inj e1
    cases Option.some.inj e2
    exact rx
  | i + 1, _, _, e1, _ => by simp at e1
theorem rp2 {H : Hp} {x y : V} {dx dy : D} (rx : Rep H x dx) (ry : Rep H y dy) : ∀ (i : Nat) (v : V) (d : D), [x, y][i]? = some v → [dx, dy][i]? = some d → Rep H v d
  | 0, _, _, e1, e2 => by
    cases Option.some.inj e1
    cases Option.some.inj e2
    exact rx
  | 1, _, _, e1, e2 => by
    cases Option.some.inj e1
    cases Option.some.inj e2
    exact ry
  | i + 2, _, _, e1, _ => by simp at e1
def dsOf (x y : D) (n : Nat) : List D := if twoOf n = true then [x, y] else [x]
theorem rep_ys {H : Hp} {q : Addr} {x y : V} {n : Nat} {dx dy : D} (h : H q = some (.lst (ysOf x y n))) (rx : Rep H x dx) (ry : Rep H y dy) : Rep H (.ref q) (.lst (dsOf dx dy n)) := by
  unfold ysOf at h
  unfold dsOf
  cases e : twoOf n with
  | true =>
    rw [e, if_pos rfl] at h
    rw [if_pos rfl]
    exact .lst h rfl (rp2 rx ry)
  | false =>
    rw [e, if_neg Bool.false_ne_true] at h
    rw [if_neg Bool.false_ne_true]
    exact .lst h rfl (rp1 rx)
theorem size_ds (x y : D) (n : Nat) : (D.lst (dsOf x y n)).size ≤ 1 + (x.size + y.size) := by
  unfold dsOf
  split
  · simp only [D.size, sizeL]
    omega
  · simp only [D.size, sizeL]
    omega
theorem due {σ : L2.St} {H : Hp} {Q : VK} {i j n : Nat} {x y : V} (hx : σ[i]? = some (some x)) (hy : σ[j]? = some (some y)) (k : ∀ q, H q = none → Q (.ref q) (upd H q (.lst (ysOf x y n)))) :
    if twoOf n = true then tLst (tCons (tVar i) (tCons (tVar j) tNil)) σ H Q else tLst (tCons (tVar i) tNil) σ H Q := by
  unfold ysOf at k
  cases e : twoOf n with
  | true =>
    rw [e] at k
    exact ifT rfl ⟨_, hx, _, hy, (by show 2 ≤ sizeLine; decide), fun q hq => k q hq⟩
  | false =>
    rw [e] at k
    exact ifF rfl ⟨_, hx, (by show 1 ≤ sizeLine; decide), fun q hq => k q hq⟩
theorem eqv_fam : ∀ f : Nat, f < 4 → PyData.eqv (.list [.bool (decide (f = 0)), .bool (decide (f = 1)), .bool (decide (f = 2)), .bool (decide (f = 3))]) (.list [.bool (decide (V.int (0 + (0 : Nat)) = V.int (f : Nat))), .bool (decide (V.int (0 + (1 : Nat)) = V.int (f : Nat))), .bool (decide (V.int (0 + (2 : Nat)) = V.int (f : Nat))), .bool (decide (V.int (0 + (3 : Nat)) = V.int (f : Nat)))]) = true
  | 0, _ => by decide +kernel
  | 1, _ => by decide +kernel
  | 2, _ => by decide +kernel
  | 3, _ => by decide +kernel
  | f + 4, h => absurd h (by omega)
def spHolds : Sp := fun vs H Q _ => ∃ (n : Nat) (p c : Addr) (ns : List Int) (k : Int), vs = [.ref p, .int n] ∧ n < 17 ∧ PoolAt H p c ns k ∧ k ≤ 90000000000 ∧
  ∀ (ns' : List Int) (k' : Int) (H' : Hp), PoolAt H' p c ns' k' → k' ≤ k + 500 → Ex (hid [p, c] H) (hid [p, c] H') → Q (.bl true) H'
theorem ok_holds (T : Txt K mg) (Z : Kit T) (G_law_take : FnOk P w K mg base CX0 1 T.d_law_take.f T.d_law_take.fd ["pool", "many"] spTake) (G_law_thing : FnOk P w K mg base CX0 5 T.d_law_thing.f T.d_law_thing.fd ["pool", "depth"] (spThing 4))
    (G_law_same : FnOk P w K mg base CX0 1 T.d_law_same.f T.d_law_same.fd ["told", "due"] spSame) : FnOk P w K mg base CX0 6 T.d_law_holds.f T.d_law_holds.fd ["pool", "number"] spHolds := by
  have G_law_family := ok_family (P := P) (w := w) (base := base) T
  have G_law_two := ok_two (P := P) (w := w) (base := base) T
  have G_law_made := ok_made (P := P) (w := w) (base := base) T
  have G_law_is := ok_is (P := P) (w := w) (base := base) T Z
  have G_law_fields := ok_fields (P := P) (w := w) (base := base) T
  have G_law_caught := ok_caught (P := P) (w := w) (base := base) T Z
  refine T.d_law_holds.F.ok sc_law_holds (fun vs H Q E h => ?_) (fun cdv A outer s H vs Q E hr h => ?_)
  · obtain ⟨n, p, c, ns, k, rfl, _⟩ := h
    rfl
  · obtain ⟨n, p, c, ns, k, rfl, hn, hP, hk, kk⟩ := h
    have hr1 : Room 1 _ := hr.mono (by omega)
    have hu64 : _ + 64 < cLine := hr.units
    refine ⟨_, (pss_cons (ps_for PassesOwn.never rfl (pi_tup (pe_tup (pa_cons pe_bl (pa_cons pe_bl pa_nil)))) (pg_name (i := 2) sc_law_holds.nd rfl (Or.inl rfl))
  (pss_cons (ps_par (i := 3) (j := 4) rfl sc_law_holds.nd rfl rfl (by decide) rfl rfl (pa_cons (pe_call G_law_thing (hr.mono (by first | decide | omega)) rfl T.d_law_thing.g T.d_law_thing.k T.d_law_thing.b .nil pass0 (pa_cons (pv 0) (pa_cons pe_int pa_nil))) (pa_cons (pe_call G_law_thing (hr.mono (by first | decide | omega)) rfl T.d_law_thing.g T.d_law_thing.k T.d_law_thing.b .nil pass0 (pa_cons (pv 0) (pa_cons pe_int pa_nil))) pa_nil)) (by first | rfl | with_unfolding_all rfl))
  (pss_cons (ps_set (i := 5) sc_law_holds.nd rfl (Or.inr rfl) (pe_call G_law_made (hr.mono (by first | decide | omega)) rfl T.d_law_made.g T.d_law_made.k T.d_law_made.b .nil pass0 (pa_cons (pv 1) (pa_cons (pv 3) (pa_cons (pv 4) (pa_cons (pv 2) pa_nil))))))
  (pss_cons (ps_set (i := 6) sc_law_holds.nd rfl (Or.inl rfl) (pe_ifExp (pt_val (pe_call G_law_two (hr.mono (by first | decide | omega)) rfl T.d_law_two.g T.d_law_two.k T.d_law_two.b .nil pass0 (pa_cons (pv 1) pa_nil))) (pe_lst (pa_cons (pv 3) (pa_cons (pv 4) pa_nil))) (pe_lst (pa_cons (pv 3) pa_nil))))
  (pss_cons (ps_if (pt_not (pt_val (pe_call G_law_same (hr.mono (by first | decide | omega)) rfl T.d_law_same.g T.d_law_same.k T.d_law_same.b .nil pass0 (pa_cons (pe_call G_law_fields (hr.mono (by first | decide | omega)) rfl T.d_law_fields.g T.d_law_fields.k T.d_law_fields.b .nil pass0 (pa_cons (pv 1) (pa_cons (pv 5) pa_nil))) (pa_cons (pv 6) pa_nil))))) (pss_one (ps_ret pe_bl))
  pss_nil)
  (pss_cons (ps_if (PW.pt (pw_or (pt_not (pt_val (pe_callB call_errIs (by rfl) T.z_isinstance bt_isinstance (pa_cons (pv 5) (pa_cons (pe_glob (v := .ref _) rfl T.x_PlanError.g rfl) pa_nil))))) (pw_or1 (pt_not (pt_val (pe_callB call_errIs (by rfl) T.z_isinstance bt_isinstance (pa_cons (pv 5) (pa_cons (pe_bltn (by rfl) T.z_ValueError (v := .ty "ValueError") bt_ValueError rfl) pa_nil)))))))) (pss_one (ps_ret pe_bl))
  pss_nil)
  (pss_cons (ps_set (i := 7) sc_law_holds.nd rfl (Or.inl rfl) (pe_lst (pa_cons (pe_callB call_errIs (by rfl) T.z_isinstance bt_isinstance (pa_cons (pv 5) (pa_cons (pe_glob (v := .ref _) rfl T.x_DataError.g rfl) pa_nil))) (pa_cons (pe_callB call_errIs (by rfl) T.z_isinstance bt_isinstance (pa_cons (pv 5) (pa_cons (pe_glob (v := .ref _) rfl T.x_CallError.g rfl) pa_nil))) (pa_cons (pe_callB call_errIs (by rfl) T.z_isinstance bt_isinstance (pa_cons (pv 5) (pa_cons (pe_glob (v := .ref _) rfl T.x_TextError.g rfl) pa_nil))) (pa_cons (pe_callB call_errIs (by rfl) T.z_isinstance bt_isinstance (pa_cons (pv 5) (pa_cons (pe_glob (v := .ref _) rfl T.x_DeskError.g rfl) pa_nil))) pa_nil))))))
  (pss_cons (ps_if (pt_cmpR (op_neD hu64) (pv 7) (pe_lc (own := [("family", 10)]) rfl sc_law_holds.nd (pi_range1 (by rfl) T.z_range (pa_cons pe_int pa_nil)) (blkOk_by (N := ["pool", "number", "named", "one", "other", "error", "due", "families", "first", "second", "family", "kind"]) (sc := defScope s_law_holds) (by decide +kernel)) (fun _ _ _ _ _ => (pg_name (i := 10) sc_law_holds.nd rfl (Or.inl rfl))) (fun _ _ _ _ _ => pts_nil) (fun _ _ _ _ _ => (pe_cmpR op_eq (pv 10) (pe_call G_law_family (hr.mono (by first | decide | omega)) rfl T.d_law_family.g T.d_law_family.k T.d_law_family.b .nil pass0 (pa_cons (pv 1) pa_nil)) (nomark _)))) (nomark _)) (pss_one (ps_ret pe_bl))
  pss_nil)
  (pss_cons (ps_if (pt_not (pt_val (pe_callB (cr_all rfl) (by rfl) T.z_all bt_all (pa_cons (pe_lc (own := [("kind", 11)]) rfl sc_law_holds.nd (pi_range1 (by rfl) T.z_range (pa_cons pe_int pa_nil)) (blkOk_by (N := ["pool", "number", "named", "one", "other", "error", "due", "families", "first", "second", "family", "kind"]) (sc := defScope s_law_holds) (by decide +kernel)) (fun _ _ _ _ _ => (pg_name (i := 11) sc_law_holds.nd rfl (Or.inl rfl))) (fun _ _ _ _ _ => pts_nil) (fun _ _ _ _ _ => (pe_cmpR op_eq (pe_call G_law_is (hr.mono (by first | decide | omega)) rfl T.d_law_is.g T.d_law_is.k T.d_law_is.b .nil pass0 (pa_cons (pv 11) (pa_cons (pv 5) pa_nil))) (pe_cmpR op_eq (pv 11) (pv 1) (nomark _)) (nomark _)))) pa_nil)))) (pss_one (ps_ret pe_bl))
  pss_nil)
  (pss_cons (ps_if (pt_not (pt_val (pe_call G_law_same (hr.mono (by first | decide | omega)) rfl T.d_law_same.g T.d_law_same.k T.d_law_same.b .nil pass0 (pa_cons (pe_call G_law_caught (hr.mono (by first | decide | omega)) rfl T.d_law_caught.g T.d_law_caught.k T.d_law_caught.b .nil pass0 (pa_cons (pv 1) (pa_cons (pv 3) (pa_cons (pv 4) pa_nil)))) (pa_cons (pe_tup (pa_cons (pe_call G_law_family (hr.mono (by first | decide | omega)) rfl T.d_law_family.g T.d_law_family.k T.d_law_family.b .nil pass0 (pa_cons (pv 1) pa_nil)) (pa_cons (pv 6) pa_nil))) pa_nil))))) (pss_one (ps_ret pe_bl))
  pss_nil)
  (pss_cons (ps_par (i := 8) (j := 9) rfl sc_law_holds.nd rfl rfl (by decide) rfl rfl (pa_cons (pe_lst (pa_cons (pe_call G_law_take (hr.mono (by first | decide | omega)) rfl T.d_law_take.g T.d_law_take.k T.d_law_take.b .nil pass0 (pa_cons (pv 0) (pa_cons pe_int pa_nil))) pa_nil)) (pa_cons (pe_lst (pa_cons pe_str pa_nil)) pa_nil)) (by first | rfl | with_unfolding_all rfl))
  (pss_cons (ps_set (i := 5) sc_law_holds.nd rfl (Or.inr rfl) (pe_call G_law_made (hr.mono (by first | decide | omega)) rfl T.d_law_made.g T.d_law_made.k T.d_law_made.b .nil pass0 (pa_cons (pv 1) (pa_cons (pv 8) (pa_cons (pv 9) (pa_cons (pv 2) pa_nil))))))
  (pss_cons (ps_expr (pe_bm PySem.F.plainAttrs_list PySem.F.slot_list_append PySem.F.type_list_append mt_append (pv 8) (pa_cons (pe_call G_law_take (hr.mono (by first | decide | omega)) rfl T.d_law_take.g T.d_law_take.k T.d_law_take.b .nil pass0 (pa_cons (pv 0) (pa_cons pe_int pa_nil))) pa_nil)))
  (pss_cons (ps_expr (pe_bm PySem.F.plainAttrs_list PySem.F.slot_list_append PySem.F.type_list_append mt_append (pv 9) (pa_cons (pv 8) pa_nil)))
  (pss_one (ps_if (pt_not (pt_val (pe_call G_law_same (hr.mono (by first | decide | omega)) rfl T.d_law_same.g T.d_law_same.k T.d_law_same.b .nil pass0 (pa_cons (pe_call G_law_fields (hr.mono (by first | decide | omega)) rfl T.d_law_fields.g T.d_law_fields.k T.d_law_fields.b .nil pass0 (pa_cons (pv 1) (pa_cons (pv 5) pa_nil))) (pa_cons (pe_ifExp (pt_val (pe_call G_law_two (hr.mono (by first | decide | omega)) rfl T.d_law_two.g T.d_law_two.k T.d_law_two.b .nil pass0 (pa_cons (pv 1) pa_nil))) (pe_lst (pa_cons (pv 8) (pa_cons (pv 9) pa_nil))) (pe_lst (pa_cons (pv 8) pa_nil))) pa_nil))))) (pss_one (ps_ret pe_bl))
  pss_nil))))))))))))))))
  (pss_one (ps_ret pe_bl))), ?_⟩
    refine ⟨(by show 2 ≤ sizeLine; decide), fun t ht => ⟨t, rfl, ⟨_, SqT.of upd_same⟩, ?_⟩⟩
    have nt := hP.out ht
    refine for_tup (K := K) (a := t) (xs := [.bl false, .bl true]) (fun i σ H2 => ∃ (v2 v3 v4 v5 v6 v7 v8 v9 v10 v11 : Option V) (ns' : List Int) (k' : Int), σ = [some (.ref p), some (.int n), v2, v3, v4, v5, v6, v7, v8, v9, v10, v11] ∧
      PoolAt H2 p c ns' k' ∧ k' ≤ k + 250 * i ∧ Ex (hid [p, c] (upd H t (.tup [.bl false, .bl true]))) (hid [p, c] H2)) ?_ ?_ ?_ ?_
    · exact ⟨_, _, _, _, _, _, _, _, _, _, ns, k, rfl, hP.new ht, by omega, Ex.refl _⟩
    · rintro i σ H2 _ ⟨v2, v3, v4, v5, v6, v7, v8, v9, v10, v11, ns', k', rfl, _, _, h⟩
      exact SqT.of (hid_some (h t _ (by rw [hid_out nt]; exact upd_same))).2
    · rintro i x σ H0 hi ⟨v2, v3, v4, v5, v6, v7, v8, v9, v10, v11, ns0, k0, rfl, hP0, hk0, hx0⟩
      obtain ⟨b, rfl, hi2⟩ : ∃ b, x = V.bl b ∧ i < 2 := by
        match i, hi with
        | 0, hi => exact ⟨_, (Option.some.inj hi).symm, by decide⟩
        | 1, hi => exact ⟨_, (Option.some.inj hi).symm, by decide⟩
        | i + 2, hi => simp at hi
      -- one, other
      refine ⟨_, rfl, p, c, ns0, k0, rfl, hP0, (by show k0 + 120 ≤ _; omega), fun one d1 ns1 k1 H1 r1 s1 hP1 hk1 x1 => ?_⟩
      have hk1' : k1 ≤ k0 + 120 := hk1
      have s1' : d1.size ≤ 40 := s1
      refine ⟨_, rfl, p, c, ns1, k1, rfl, hP1, (by show k1 + 120 ≤ _; omega), fun other d2 ns2 k2 H2 r2 s2 hP2 hk2 x2 => ?_⟩
      have hk2' : k2 ≤ k1 + 120 := hk2
      have s2' : d2.size ≤ 40 := s2
      have q1 : Rep H2 one d1 := ((rep_fr hP0 r1).mono x2).un
      have q2 : Rep H2 other d2 := (rep_fr hP1 r2).un
      have hx2 : Ex (hid [p, c] (upd H t (.tup [.bl false, .bl true]))) (hid [p, c] H2) := (hx0.trans x1).trans x2
      refine ⟨one, other, rfl, ?_⟩
      -- error
      refine ⟨_, rfl, _, rfl, _, rfl, _, rfl, n, one, other, b, rfl, hn, fun a d H3 na nd ea ed e3 => ?_⟩
      -- due
      refine ⟨_, rfl, n, rfl, fun H4 e4 => ⟨_, rfl, ?_⟩⟩
      refine due (x := one) (y := other) rfl rfl fun q6 hq6 => ?_
      have f5 : Ex H2 (upd H4 q6 (.lst (ysOf one other n))) := (e3.trans e4).trans (Ex.new hq6)
      have ea5 := (e4.trans (Ex.new (o := .lst (ysOf one other n)) hq6)) _ _ ea
      have ed5 := (e4.trans (Ex.new (o := .lst (ysOf one other n)) hq6)) _ _ ed
      have du5 : (upd H4 q6 (.lst (ysOf one other n))) q6 = some (.lst (ysOf one other n)) := upd_same
      revert f5 ea5 ed5 du5
      generalize upd H4 q6 (.lst (ysOf one other n)) = H5
      intro f5 ea5 ed5 du5
      -- if not _law_same(_law_fields(number, error), due)
      refine ⟨_, rfl, _, rfl, n, a, d, one, other, rfl, hn, ea5, ed5, fun p6 H6 np6 e6 l6 => ?_⟩
      have g6 := f5.trans e6
      refine ⟨_, rfl, _, _, .lst (dsOf d1 d2 n), rfl, rep_ys l6 (q1.mono g6) (q2.mono g6), rep_ys (e6 _ _ du5) (q1.mono g6) (q2.mono g6), (by have := size_ds d1 d2 n; omega), fun H7 e7 => ⟨true, rfl, ifF rfl ?_⟩⟩
      have g7 := g6.trans e7
      have ea7 := e7 _ _ (e6 _ _ ea5)
      have ed7 := e7 _ _ (e6 _ _ ed5)
      have du7 := e7 _ _ (e6 _ _ du5)
      have eA := fun {X : Cx} => (show ErrAt X H7 a (T.C n) (flds one other n) from .inl ⟨d, ea7, ed7⟩)
      -- isinstance
      refine ⟨_, rfl, ⟨a, T.C n, _, _, _, true, rfl, eA, T.ec n hn, fun u hu => hu, Z.pe n hn, _, rfl, ifF rfl ?_⟩⟩
      refine ⟨_, rfl, ⟨a, T.C n, _, _, _, true, rfl, eA, T.ec n hn, fun u hu => hu, Z.ve n hn, _, rfl, ifF rfl ?_⟩⟩
      -- families
      refine ⟨_, rfl, ⟨a, T.C n, _, _, _, _, rfl, eA, T.ec n hn, fun u hu => hu, Z.fam n 0 hn (by decide), ?_⟩⟩
      refine ⟨_, rfl, ⟨a, T.C n, _, _, _, _, rfl, eA, T.ec n hn, fun u hu => hu, Z.fam n 1 hn (by decide), ?_⟩⟩
      refine ⟨_, rfl, ⟨a, T.C n, _, _, _, _, rfl, eA, T.ec n hn, fun u hu => hu, Z.fam n 2 hn (by decide), ?_⟩⟩
      refine ⟨_, rfl, ⟨a, T.C n, _, _, _, _, rfl, eA, T.ec n hn, fun u hu => hu, Z.fam n 3 hn (by decide), ?_⟩⟩
      refine ⟨(by show 4 ≤ sizeLine; decide), fun q7 hq7 => ?_⟩
      -- families != [..]
      refine ⟨_, rfl, 4, rfl, by decide, by decide, fun Lc hD => ?_⟩
      refine lc_range (lo := 0) (n := 4) (fun i H' => H' Lc = some (.lst ((List.range i).map fun j => .bl (decide (V.int (0 + (j : Nat)) = V.int (famOf n : Nat))))) ∧ Ex (upd H7 q7 (.lst [.bl (decide (famOf n = 0)), .bl (decide (famOf n = 1)), .bl (decide (famOf n = 2)), .bl (decide (famOf n = 3))])) H') ⟨upd_same, Ex.new hD⟩ ?_ ?_
      · rintro i H' hi ⟨hl, hx⟩
        refine ⟨rfl, yes_if ?_⟩
        refine ⟨_, rfl, _, rfl, n, rfl, rfl, _, hl, ?_, ?_, hx.mut hD⟩
        · rw [List.length_map, List.length_range, sizeLine_eq]
          omega
        · rw [upd_same, List.range_succ, List.map_append]
          rfl
      rintro H8 ⟨hl8, e8⟩
      have d8 := e8 _ _ upd_same
      refine ⟨_, _, .lst (SqL.of d8) (.cons (.bl _) (.cons (.bl _) (.cons (.bl _) (.cons (.bl _) .nil)))), .lst (SqL.of hl8) (.cons (.bl _) (.cons (.bl _) (.cons (.bl _) (.cons (.bl _) .nil)))), rfl, rfl, _, rfl, ifF ?_ ?_⟩
      · exact (congrArg (!·) (eqv_fam (famOf n) (famLt n)))
      have k8 : Ex H7 H8 := (Ex.new hq7).trans e8
      -- not all([..])
      refine ⟨17, rfl, by decide, by decide, fun Lc hD => ?_⟩
      refine lc_range (lo := 0) (n := 17) (fun i H' => H' Lc = some (.lst ((List.replicate i true).map V.bl)) ∧ Ex H8 H') ⟨upd_same, Ex.new hD⟩ ?_ ?_
      · rintro i H' hi ⟨hl, hx⟩
        refine ⟨rfl, yes_if ?_⟩
        refine ⟨_, rfl, _, rfl, i, n, a, d, _, (by rw [Int.zero_add]; rfl), hi, hn, hx _ _ (k8 _ _ ea7), hx _ _ (k8 _ _ ed7), _, rfl, _, rfl, rfl, rfl, _, hl, ?_, ?_, hx.mut hD⟩
        · rw [List.length_map, List.length_replicate, sizeLine_eq]
          omega
        · have z : decide (V.bl (decide (n = i)) = V.bl (decide (V.int (0 + (i : Nat)) = V.int (n : Nat)))) = true := by
            apply decide_eq_true
            apply congrArg V.bl
            rw [Int.zero_add]
            by_cases c : n = i
            · rw [c, decide_eq_true rfl, decide_eq_true rfl]
            · rw [decide_eq_false c, decide_eq_false (fun z => c (by have := V.int.inj z; omega))]
          rw [upd_same, List.replicate_succ', List.map_append]
          exact congrArg (fun b => some (HO.lst (_ ++ [V.bl b]))) z
      rintro H9 ⟨hl9, e9⟩
      refine ⟨_, _, rfl, SqL.of hl9, true, (by rfl), ifF rfl ?_⟩
      have k9 := k8.trans e9
      have du9 := k9 _ _ du7
      have g9 := g7.trans k9
      -- caught
      refine ⟨_, rfl, _, rfl, _, rfl, n, one, other, rfl, hn, fun qa pa Ha nqa npa hqa hpa xa => ?_⟩
      refine ⟨_, rfl, n, rfl, _, rfl, (by show 2 ≤ sizeLine; decide), fun qb hqb => ?_⟩
      have gb : Ex H2 (upd Ha qb (.tup [.int (famOf n : Nat), .ref q6])) := (g9.trans xa).trans (Ex.new hqb)
      refine ⟨_, _, .tup [.int (famOf n : Nat), .lst (dsOf d1 d2 n)], rfl, .tup (Ex.new hqb _ _ hqa) rfl (rp2 (.int _) (rep_ys (Ex.new hqb _ _ hpa) (q1.mono gb) (q2.mono gb))),
        .tup upd_same rfl (rp2 (.int _) (rep_ys (Ex.new hqb _ _ (xa _ _ du9)) (q1.mono gb) (q2.mono gb))), ?_, fun Hb eb => ⟨true, rfl, ifF rfl ?_⟩⟩
      · have := size_ds d1 d2 n
        simp only [D.size, sizeL] at this ⊢
        omega
      have gc : Ex H2 Hb := gb.trans eb
      have hPb : PoolAt Hb p c ns2 k2 := hP2.ex gc
      have hxb : Ex (hid [p, c] (upd H t (.tup [.bl false, .bl true]))) (hid [p, c] Hb) := hx2.trans (HB.Ex.hid gc)
      -- first, second
      refine ⟨_, rfl, p, c, ns2, k2, 9, rfl, hPb, by omega, by decide, by decide, fun r ns3 Hc rr0 rr1 hPc hc => ?_⟩
      refine ⟨(by show 1 ≤ sizeLine; decide), fun f hf => ⟨(by show 1 ≤ sizeLine; decide), fun g hg => ⟨_, _, rfl, ?_⟩⟩⟩
      have nf := hPc.out hf
      have ngf : g ≠ f := fun z => by
        rw [z, upd_same] at hg
        cases hg
      have hg' : Hc g = none := by
        rw [upd_ne ngf] at hg
        exact hg
      have ng := hPc.out hg'
      have hxc : Ex (hid [p, c] (upd H t (.tup [.bl false, .bl true]))) (hid [p, c] Hc) := by
        rw [hc]
        exact hxb
      have hPd := (hPc.new (o := .lst [.int r]) hf).new (o := .lst [.str "x"]) hg
      -- error
      refine ⟨_, rfl, _, rfl, _, rfl, _, rfl, n, .ref f, .ref g, b, rfl, hn, fun a2 d2' Hd na2 nd2 ea2 ed2 xd => ?_⟩
      have naf : a2 ≠ f := fun z => by
        rw [z, upd_ne (Ne.symm ngf), upd_same] at na2
        cases na2
      have nag : a2 ≠ g := fun z => by
        rw [z, upd_same] at na2
        cases na2
      have ndf : d2' ≠ f := fun z => by
        rw [z, upd_ne (Ne.symm ngf), upd_same] at nd2
        cases nd2
      have ndg : d2' ≠ g := fun z => by
        rw [z, upd_same] at nd2
        cases nd2
      have nap := hPd.out na2
      have ndp := hPd.out nd2
      have hPd' := hPd.ex xd
      have fd : Hd f = some (.lst [.int r]) := xd _ _ (by rw [upd_ne (Ne.symm ngf), upd_same])
      have gd : Hd g = some (.lst [.str "x"]) := xd _ _ upd_same
      have hxd : Ex (hid [p, c] (upd H t (.tup [.bl false, .bl true]))) (hid [p, c] Hd) := hxc.trans (HB.Ex.hid (((Ex.new hf).trans (Ex.new hg)).trans xd))
      -- first.append(..)
      refine ⟨_, rfl, .inl ⟨rfl, _, SqL.of fd⟩, ?_⟩
      refine ⟨_, rfl, p, c, ns3, _, 10007, rfl, hPd', by omega, by decide, by decide, fun r2 ns4 He rr20 rr21 hPe he => ?_⟩
      have hxe : Ex (hid [p, c] (upd H t (.tup [.bl false, .bl true]))) (hid [p, c] He) := by
        rw [he]
        exact hxd
      refine ⟨f, _, _, rfl, rfl, (keep_hid he nf).trans fd, (by show 1 < sizeLine; decide), ?_⟩
      -- second.append(first)
      have ge : (upd He f (.lst ([.int r] ++ [.int r2]))) g = some (.lst [.str "x"]) := by
        rw [upd_ne ngf]
        exact (keep_hid he ng).trans gd
      refine ⟨_, rfl, .inl ⟨rfl, _, SqL.of ge⟩, ?_⟩
      refine ⟨_, rfl, g, _, _, rfl, rfl, ge, (by show 1 < sizeLine; decide), ?_⟩
      have hf0 : (upd H t (.tup [.bl false, .bl true])) f = none := hid_fresh hxc nf hf
      have hg0 : (upd H t (.tup [.bl false, .bl true])) g = none := hid_fresh hxc ng hg'
      have hPf := (hPe.mut (o := .lst ([.int r] ++ [.int r2])) nf).mut (o := .lst ([.str "x"] ++ [.ref f])) ng
      have hxf : Ex (hid [p, c] (upd H t (.tup [.bl false, .bl true]))) (hid [p, c] (upd (upd He f (.lst ([.int r] ++ [.int r2]))) g (.lst ([.str "x"] ++ [.ref f])))) := ex_mut (ex_mut hxe hf0) hg0
      have ff : (upd (upd He f (.lst ([.int r] ++ [.int r2]))) g (.lst ([.str "x"] ++ [.ref f]))) f = some (.lst [.int r, .int r2]) := by
        rw [upd_ne (Ne.symm ngf), upd_same]
        rfl
      have gf : (upd (upd He f (.lst ([.int r] ++ [.int r2]))) g (.lst ([.str "x"] ++ [.ref f]))) g = some (.lst [.str "x", .ref f]) := upd_same
      have af : (upd (upd He f (.lst ([.int r] ++ [.int r2]))) g (.lst ([.str "x"] ++ [.ref f]))) a2 = some (exo a2 (T.C n) (some d2')) := by
        rw [upd_ne nag, upd_ne naf]
        exact (keep_hid he nap).trans ea2
      have df : (upd (upd He f (.lst ([.int r] ++ [.int r2]))) g (.lst ([.str "x"] ++ [.ref f]))) d2' = some (exd d2' (flds (.ref f) (.ref g) n)) := by
        rw [upd_ne ndg, upd_ne ndf]
        exact (keep_hid he ndp).trans ed2
      revert hPf hxf ff gf af df
      generalize upd (upd He f (.lst ([.int r] ++ [.int r2]))) g (.lst ([.str "x"] ++ [.ref f])) = Hf
      intro hPf hxf ff gf af df
      -- the last test
      refine ⟨_, rfl, _, rfl, n, a2, d2', .ref f, .ref g, rfl, hn, af, df, fun p7 Hg np7 xg lg => ?_⟩
      refine ⟨_, rfl, n, rfl, fun Hh xh => ⟨_, rfl, ?_⟩⟩
      refine due (x := .ref f) (y := .ref g) rfl rfl fun q8 hq8 => ?_
      have xi := (xg.trans xh).trans (Ex.new (o := .lst (ysOf (.ref f) (.ref g) n)) hq8)
      have rf : Rep (upd Hh q8 (.lst (ysOf (.ref f) (.ref g) n))) (.ref f) (.lst [.int r, .int r2]) := .lst (xi _ _ ff) rfl (rp2 (.int _) (.int _))
      have rg : Rep (upd Hh q8 (.lst (ysOf (.ref f) (.ref g) n))) (.ref g) (.lst [.str "x", .lst [.int r, .int r2]]) := .lst (xi _ _ gf) rfl (rp2 (.str _) rf)
      refine ⟨_, _, .lst (dsOf (.lst [.int r, .int r2]) (.lst [.str "x", .lst [.int r, .int r2]]) n), rfl, rep_ys ((xh.trans (Ex.new hq8)) _ _ lg) rf rg, rep_ys upd_same rf rg, ?_, fun Hj xj => ⟨true, rfl, ifF rfl ?_⟩⟩
      · have := size_ds (.lst [.int r, .int r2]) (.lst [.str "x", .lst [.int r, .int r2]]) n
        simp only [D.size, sizeL] at this ⊢
        omega
      have hx9 : Ex (hid [p, c] (upd H t (.tup [.bl false, .bl true]))) (hid [p, c] Hj) := hxf.trans (HB.Ex.hid (xi.trans xj))
      refine ⟨_, _, _, _, _, _, _, _, _, _, ns4, _, rfl, hPf.ex (xi.trans xj), (by omega), hx9⟩
    · rintro σ H9 ⟨v2, v3, v4, v5, v6, v7, v8, v9, v10, v11, ns', k', rfl, hP', hk', hx'⟩
      exact kk ns' k' H9 hP' (by simp at hk'; omega) ((HB.Ex.hid (Ex.new ht)).trans hx')
end
end K98
set_option Elab.async false
set_option linter.all false
set_option maxRecDepth 100000
set_option maxHeartbeats 8000000
namespace K98
open PySem PySem.Spec PyProof.Rows L2 XcV Evl HB
section
variable {P : Program} {w : World} {K : PySem.W.Frag} {mg : Str → Option Value} {base : Heap}
/-! ### law -/
def spLaw (K : PySem.W.Frag) : Sp := fun vs H Q _ => ∃ (a : Addr) (ns : List Int), vs = [.ref a] ∧ SqL K H a (ns.map V.int) ∧ ns.length ≤ 63 ∧ ∀ H', Q (.bl true) H'
theorem tail {a p c : Addr} {ns : List Int} {H : Hp} {Q : VK} {x y : Option V} {K : PySem.W.Frag} (hP : PoolAt H p c ns 0) (kk : ∀ H', Q (.bl true) H') :
    tCB (rAll K) (tCons (tLc (iRng1 (tCons (tC (V.int 17)) tNil)) (gName 2) tYes (tCall spHolds [] E0 (tCons (tVar 1) (tCons (tVar 2) tNil))) [2]) tNil) [some (.ref a), some (.ref p), x, y] H Q := by
  refine ⟨17, rfl, by decide, by decide, fun Lc hD => ?_⟩
  have nL := hP.out hD
  refine lc_range (lo := 0) (n := 17) (fun i H' => H' Lc = some (.lst ((List.replicate i true).map V.bl)) ∧ ∃ (ns' : List Int) (k' : Int), PoolAt H' p c ns' k' ∧ k' ≤ 500 * i) ⟨upd_same, ns, 0, hP.new hD, by omega⟩ ?_ ?_
  · rintro i H' hi ⟨hl, ns', k', hP', hk'⟩
    refine ⟨rfl, yes_if ?_⟩
    refine ⟨_, rfl, _, rfl, i, p, c, ns', k', (by rw [Int.zero_add]; rfl), hi, hP', by omega, fun ns2 k2 H2 hP2 hk2 hx2 => ?_⟩
    have hl2 : H2 Lc = some (.lst ((List.replicate i true).map V.bl)) := (hid_some (hx2 Lc _ (by rw [hid_out nL]; exact hl))).2
    refine ⟨_, hl2, ?_, ?_, ns2, k2, hP2.mut nL, by omega⟩
    · rw [List.length_map, List.length_replicate, sizeLine_eq]
      omega
    · rw [upd_same, List.replicate_succ', List.map_append]
      rfl
  · rintro H' ⟨hl, _⟩
    exact ⟨Lc, _, rfl, SqL.of hl, kk _⟩
theorem sq_ex {K : PySem.W.Frag} {H H' : Hp} {a : Addr} {xs : List V} (h : SqL K H a xs) (e : Ex H H') : SqL K H' a xs := ex_l e h
theorem ok_law {f : Addr} {fd : FuncData} (F : Fun K "law" "law" slaw f fd) (T : Txt K mg) (Z : Kit T) : FnOk P w K mg base CX0 7 f fd ["script"] (spLaw K) := by
  have G_law_take : FnOk P w K mg base CX0 1 T.d_law_take.f T.d_law_take.fd ["pool", "many"] spTake := ok_law_take T.d_law_take.F T.toTz
  have G0 := ok_thing_step (P := P) (w := w) (base := base) T G_law_take 0 thing0
  have G1 := ok_thing_step T G_law_take 1 G0
  have G2 := ok_thing_step T G_law_take 2 G1
  have G3 := ok_thing_step T G_law_take 3 G2
  have G_law_same : FnOk P w K mg base CX0 1 T.d_law_same.f T.d_law_same.fd ["told", "due"] spSame := ok_law_same T.d_law_same.F T.toTz
  have G_law_holds := ok_holds T Z G_law_take G3 G_law_same
  refine F.ok sclaw (fun vs H Q E h => ?_) (fun cdv A outer s H vs Q E hr h => ?_)
  · obtain ⟨a, ns, rfl, _⟩ := h
    rfl
  · obtain ⟨a, ns, rfl, hS, hlen, kk⟩ := h
    refine ⟨_, (pss_cons (ps_set (i := 1) sclaw.nd rfl (Or.inr rfl) (pe_lst (pa_cons (pe_ifExp (pt_truth (pv 0) (fun _ => rfl)) (pe_lc (own := [("cell", 3)]) rfl sclaw.nd (pi_list (pv 0)) (blkOk_by (N := ["script", "pool", "number", "cell"]) (sc := defScope slaw) (by decide +kernel)) (fun _ _ _ _ _ => (pg_name (i := 3) sclaw.nd rfl (Or.inl rfl))) (fun _ _ _ _ _ => pts_nil) (fun _ _ _ _ _ => (pe_callB call_abs (by rfl) T.z_abs bt_abs (pa_cons (pe_callTy call_int1 (by rfl) T.z_int bt_int (pa_cons (pv 3) pa_nil)) pa_nil)))) (pe_lst (pa_cons pe_int pa_nil))) (pa_cons pe_int pa_nil))))
  (pss_one (ps_ret (pe_callB (cr_all rfl) (by rfl) T.z_all bt_all (pa_cons (pe_lc (own := [("number", 2)]) rfl sclaw.nd (pi_range1 (by rfl) T.z_range (pa_cons pe_int pa_nil)) (blkOk_by (N := ["script", "pool", "number", "cell"]) (sc := defScope slaw) (by decide +kernel)) (fun _ _ _ _ _ => (pg_name (i := 2) sclaw.nd rfl (Or.inl rfl))) (fun _ _ _ _ _ => pts_nil) (fun _ _ _ _ _ => (pe_call G_law_holds (hr.mono (by first | decide | omega)) rfl T.d_law_holds.g T.d_law_holds.k T.d_law_holds.b .nil pass0 (pa_cons (pv 1) (pa_cons (pv 2) pa_nil))))) pa_nil))))), ?_⟩
    have fin : ∀ (c p : Addr) (ns1 : List Int) (H1 : Hp), ns1 ≠ [] → H1 c = some (.lst (ns1.map V.int)) → H1 p = none → PoolAt (upd H1 p (.lst [.ref c, .int 0])) p c ns1 0 := fun c p ns1 H1 ne hc hp =>
      ⟨upd_same, by rw [upd_ne (ne_of_none hc hp)]; exact hc, ne, Int.le_refl _⟩
    refine ⟨_, rfl, !(ns.map V.int).isEmpty, .inl ⟨_, hS, rfl⟩, ite2 (fun c0 => ?_) (fun c0 => ?_)⟩
    · refine ⟨_, rfl, a, rfl, ⟨_, hS⟩, fun c hc => ?_⟩
      refine lc_list (K := K) (a := a) (xs := ns.map V.int) (fun i H' => ∃ l : List Int, H' = upd H c (.lst (l.map V.int)) ∧ l.length = i) ⟨[], rfl, rfl⟩ ?_ ?_ ?_
      · rintro i H' _ ⟨l, rfl, _⟩
        exact sq_ex hS (Ex.new hc)
      · rintro i x H' hi ⟨l, rfl, len⟩
        have hil : i < (ns.map V.int).length := (List.getElem?_eq_some_iff.mp hi).1
        rw [List.length_map] at hil
        obtain ⟨z, rfl⟩ : ∃ z, x = V.int z := by
          rw [List.getElem?_map] at hi
          cases e : ns[i]? with
          | none =>
            rw [e] at hi
            cases hi
          | some z =>
            rw [e] at hi
            exact ⟨z, (Option.some.inj hi).symm⟩
        refine ⟨rfl, yes_if ?_⟩
        refine ⟨_, rfl, .inl ⟨z, rfl, z, rfl, _, upd_same, ?_, l ++ [if z < 0 then -z else z], ?_, ?_⟩⟩
        · rw [List.length_map, sizeLine_eq]
          omega
        · rw [upd_upd, List.map_append]
          rfl
        · rw [List.length_append, len]
          rfl
      · rintro H' ⟨l, rfl, len⟩
        refine ⟨(by show 2 ≤ sizeLine; decide), fun p hp => ?_⟩
        refine tail (fin c p l _ (fun z => ?_) upd_same hp) kk
        rw [z, List.length_map] at len
        cases ns with
        | nil => cases c0
        | cons _ _ => cases len
    · refine ⟨(by show 1 ≤ sizeLine; decide), fun c hc => ?_⟩
      refine ⟨(by show 2 ≤ sizeLine; decide), fun p hp => ?_⟩
      exact tail (fin c p [0] _ (fun z => by cases z) upd_same hp) kk
end
end K98
set_option Elab.async false
set_option linter.all false
set_option maxRecDepth 100000
set_option maxHeartbeats 8000000
namespace K98
open PySem PySem.Spec PyProof.Rows L2 XcV Evl HB
/-! ### what the top has written -/
def bmOf (Fm Pe : Addr) : List Value := [.ref Fm, .ref Pe, .type "ValueError", .type "Exception", .type "BaseException", .type "object"]
/-- of one class with fields -/
structure Cl (K : PySem.W.Frag) (x q : Str) (st : Stmt) (ps : List Str) (Fm Pe C fI : Addr) : Prop where
  g : PySem.W.nsIn K mainGlobals x = some (some (.ref C))
  lk : ∃ nm q N bs sn sub ab col dd k0 k1 k2 k3 k5, K.lookup C = some (excClassObj nm q C N bs [.ref Fm, .ref Pe, .type "ValueError", .type "Exception", .type "BaseException", .type "object"] true sn sub ab col dd k0 k1 k2 k3 k5 "ValueError.__new__")
  sa : PySem.W.findIn K (.ref C) "__setattr__" = some (some (.builtin "object.__setattr__"))
  ga : PySem.W.findIn K (.ref C) "__getattribute__" = some (some (.builtin "BaseException.__getattribute__"))
  gg : PySem.W.findIn K (.ref C) "__getattr__" = some none
  cl : PySem.W.findIn K (.ref C) "__class__" = some (some (.builtin "object.__class__"))
  kC : PySem.W.keepIn K (.ref C) = true
  tC : PySem.W.typeIn K (.ref C) = some (.type "type")
  hd : PySem.W.hasDictIn K C = true
  exC : PySem.W.subIn K (.ref C) (.type "BaseException") = some true
  hm : PySem.W.mroIn K C (.type "object") = some true
  iI : PySem.W.findIn K (.ref C) "__init__" = some (some (.ref fI))
  tI : PySem.W.typeIn K (.ref fI) = some (.type "function")
  fn : ∃ oc od kV doc pm an cdv ct osl, K.lookup fI = some ⟨oc, od, .func (PySem.W.fnOf "__init__" q (defArgs st) (defBody st) (defScope st) .none kV doc pm an cdv ct), osl⟩ ∧ PySem.W.codeIn K cdv q = true
  kI : PySem.W.keepIn K (.ref fI) = true
  nf : ∀ f ∈ ps, PySem.W.findIn K (.ref C) f = some none
/-- of one class without -/
structure Cb (K : PySem.W.Frag) (x : Str) (C : Addr) : Prop where
  g : PySem.W.nsIn K mainGlobals x = some (some (.ref C))
  iC : PySem.W.isClsIn K C = true
  tC : PySem.W.typeIn K (.ref C) = some (.type "type")
  exC : PySem.W.subIn K (.ref C) (.type "BaseException") = some true
/-- of one def -/
structure Df (K : PySem.W.Frag) (x : Str) (st : Stmt) (f : Addr) : Prop where
  g : PySem.W.nsIn K mainGlobals x = some (some (.ref f))
  fn : ∃ oc od kV doc pm an cdv ct osl, K.lookup f = some ⟨oc, od, .func (PySem.W.fnOf x x (defArgs st) (defBody st) (defScope st) .none kV doc pm an cdv ct), osl⟩ ∧ PySem.W.codeIn K cdv x = true
  k : PySem.W.keepIn K (.ref f) = true
theorem Df.of {K : PySem.W.Frag} {x : Str} {st : Stmt} {f : Addr} {oc : Value} {od an : Option Addr} {osl : Array (Option Value)} {kV doc pm cdv ct : Value} (g : PySem.W.nsIn K mainGlobals x = some (some (.ref f)))
    (l : K.lookup f = some ⟨oc, od, .func (PySem.W.fnOf x x (defArgs st) (defBody st) (defScope st) .none kV doc pm an cdv ct), osl⟩) (c : PySem.W.codeIn K cdv x = true) (k : PySem.W.keepIn K (.ref f) = true) : Df K x st f := ⟨g, ⟨oc, od, kV, doc, pm, an, cdv, ct, osl, l, c⟩, k⟩
theorem Cl.of1 {K : PySem.W.Frag} {x q a : Str} {st : Stmt} {Fm Pe C fI : Addr} {nm q' : Str} {N : Addr} {bs : List Value} {sn : List Str} {sub : List Value} {ab : Bool} {col : Option Bool} {dd : Option Addr} {k0 k1 k2 k3 k5 : Option Value}
    {oc : Value} {od an : Option Addr} {osl : Array (Option Value)} {kV doc pm cdv ct : Value} (g : PySem.W.nsIn K mainGlobals x = some (some (.ref C)))
    (lk : K.lookup C = some (excClassObj nm q' C N bs [.ref Fm, .ref Pe, .type "ValueError", .type "Exception", .type "BaseException", .type "object"] true sn sub ab col dd k0 k1 k2 k3 k5 "ValueError.__new__"))
    (sa : PySem.W.findIn K (.ref C) "__setattr__" = some (some (.builtin "object.__setattr__")))
    (ga : PySem.W.findIn K (.ref C) "__getattribute__" = some (some (.builtin "BaseException.__getattribute__")))
    (gg : PySem.W.findIn K (.ref C) "__getattr__" = some none)
    (cl : PySem.W.findIn K (.ref C) "__class__" = some (some (.builtin "object.__class__")))
    (kC : PySem.W.keepIn K (.ref C) = true)
    (tC : PySem.W.typeIn K (.ref C) = some (.type "type"))
    (hd : PySem.W.hasDictIn K C = true)
    (exC : PySem.W.subIn K (.ref C) (.type "BaseException") = some true)
    (hm : PySem.W.mroIn K C (.type "object") = some true)
    (iI : PySem.W.findIn K (.ref C) "__init__" = some (some (.ref fI)))
    (tI : PySem.W.typeIn K (.ref fI) = some (.type "function"))
    (l : K.lookup fI = some ⟨oc, od, .func (PySem.W.fnOf "__init__" q (defArgs st) (defBody st) (defScope st) .none kV doc pm an cdv ct), osl⟩) (c : PySem.W.codeIn K cdv q = true)
    (kI : PySem.W.keepIn K (.ref fI) = true)
    (nf : PySem.W.findIn K (.ref C) a = some none) : Cl K x q st [a] Fm Pe C fI := ⟨g, ⟨nm, q', N, bs, sn, sub, ab, col, dd, k0, k1, k2, k3, k5, lk⟩, sa, ga, gg, cl, kC, tC, hd, exC, hm, iI, tI, ⟨oc, od, kV, doc, pm, an, cdv, ct, osl, l, c⟩, kI, fun f hf => by
    cases List.mem_singleton.mp hf
    exact nf⟩
theorem Cl.of2 {K : PySem.W.Frag} {x q a b : Str} {st : Stmt} {Fm Pe C fI : Addr} {nm q' : Str} {N : Addr} {bs : List Value} {sn : List Str} {sub : List Value} {ab : Bool} {col : Option Bool} {dd : Option Addr} {k0 k1 k2 k3 k5 : Option Value}
    {oc : Value} {od an : Option Addr} {osl : Array (Option Value)} {kV doc pm cdv ct : Value} (g : PySem.W.nsIn K mainGlobals x = some (some (.ref C)))
    (lk : K.lookup C = some (excClassObj nm q' C N bs [.ref Fm, .ref Pe, .type "ValueError", .type "Exception", .type "BaseException", .type "object"] true sn sub ab col dd k0 k1 k2 k3 k5 "ValueError.__new__"))
    (sa : PySem.W.findIn K (.ref C) "__setattr__" = some (some (.builtin "object.__setattr__")))
    (ga : PySem.W.findIn K (.ref C) "__getattribute__" = some (some (.builtin "BaseException.__getattribute__")))
    (gg : PySem.W.findIn K (.ref C) "__getattr__" = some none)
    (cl : PySem.W.findIn K (.ref C) "__class__" = some (some (.builtin "object.__class__")))
    (kC : PySem.W.keepIn K (.ref C) = true)
    (tC : PySem.W.typeIn K (.ref C) = some (.type "type"))
    (hd : PySem.W.hasDictIn K C = true)
    (exC : PySem.W.subIn K (.ref C) (.type "BaseException") = some true)
    (hm : PySem.W.mroIn K C (.type "object") = some true)
    (iI : PySem.W.findIn K (.ref C) "__init__" = some (some (.ref fI)))
    (tI : PySem.W.typeIn K (.ref fI) = some (.type "function"))
    (l : K.lookup fI = some ⟨oc, od, .func (PySem.W.fnOf "__init__" q (defArgs st) (defBody st) (defScope st) .none kV doc pm an cdv ct), osl⟩) (c : PySem.W.codeIn K cdv q = true)
    (kI : PySem.W.keepIn K (.ref fI) = true)
    (nf : PySem.W.findIn K (.ref C) a = some none) (nf2 : PySem.W.findIn K (.ref C) b = some none) : Cl K x q st [a, b] Fm Pe C fI := ⟨g, ⟨nm, q', N, bs, sn, sub, ab, col, dd, k0, k1, k2, k3, k5, lk⟩, sa, ga, gg, cl, kC, tC, hd, exC, hm, iI, tI, ⟨oc, od, kV, doc, pm, an, cdv, ct, osl, l, c⟩, kI, fun f hf => by
    rcases List.mem_cons.mp hf with e | e
    · cases e
      exact nf
    · cases List.mem_singleton.mp e
      exact nf2⟩
section
variable {K : PySem.W.Frag} {mg : Str → Option Value} {h : Heap}
theorem Cl.xc {x q : Str} {st : Stmt} {ps : List Str} {Fm Pe C fI : Addr} (c : Cl K x q st ps Fm Pe C fI) (X : K.In h) (G : h.Ns mainGlobals mg)
    (hn : PySem.W.specialIn K (.builtin "object.__class__") "__get__" = some (some (.builtin "getset_descriptor.__get__"))) (ht : PySem.W.takesIn K (.builtin "object.__class__") = some true) : ∃ T : Xc K mg x q st ps, T.C = C := by
  obtain ⟨oc, od, kV, doc, pm, an, cdv, ct, osl, l, e⟩ := c.fn
  obtain ⟨nm, q', N, bs, sn, sub, ab, col, dd, k0, k1, k2, k3, k5, lC⟩ := c.lk
  exact ⟨⟨C, fI, _, PySem.W.mg_of X G c.g, ⟨⟨⟨nm, q', N, bs, _, sn, sub, ab, col, dd, k0, k1, k2, k3, k5, lC, rfl⟩, c.sa, c.exC, c.tC, c.kC⟩, c.iI, c.tI⟩, fun_mk (st := st) l e c.kI, ⟨c.ga, c.gg, c.exC, c.hd⟩, ⟨c.ga, c.gg, c.exC, c.hd, c.cl, hn, ht, c.hm⟩, c.nf⟩, rfl⟩
theorem Cl.mro {x q : Str} {st : Stmt} {ps : List Str} {Fm Pe C fI : Addr} (c : Cl K x q st ps Fm Pe C fI) : ∃ cd, PySem.W.clsIn K C = some cd ∧ cd.mro = .ref C :: bmOf Fm Pe := by
  obtain ⟨nm, q', N, bs, sn, sub, ab, col, dd, k0, k1, k2, k3, k5, lC⟩ := c.lk
  unfold PySem.W.clsIn
  rw [lC]
  exact ⟨_, rfl, rfl⟩
theorem Cb.cg {x : Str} {C : Addr} (c : Cb K x C) (X : K.In h) (G : h.Ns mainGlobals mg) : ∃ T : Cg mg x, T.C = C := ⟨⟨C, PySem.W.mg_of X G c.g⟩, rfl⟩
theorem Df.fd {x : Str} {st : Stmt} {f : Addr} {ps : List Str} (c : Df K x st f) (X : K.In h) (G : h.Ns mainGlobals mg) (hb : ∀ fd, Fun K x x st f fd → Binds K fd ps []) : ∃ T : Fd K mg x st ps, T.f = f := by
  obtain ⟨oc, od, kV, doc, pm, an, cdv, ct, osl, l, e⟩ := c.fn
  have F := fun_mk (st := st) l e c.k
  exact ⟨⟨f, _, F, PySem.W.mg_of X G c.g, hb _ F⟩, rfl⟩
/-! ### who is of which class -/
theorem sub_of {C : Addr} {l : List Value} (h : ∃ cd, PySem.W.clsIn K C = some cd ∧ cd.mro = l) (ne : l ≠ []) (c : Value) : PySem.W.subIn K (.ref C) c = some (l.contains c) := by
  obtain ⟨cd, e, rfl⟩ := h
  show PySem.W.mroIn K C c = _
  unfold PySem.W.mroIn
  rw [e]
  show (if cd.mro.isEmpty = true then none else some (cd.mro.contains c)) = _
  rw [if_neg (by simp [ne])]
theorem kit_of {A C : Addr} {l : List Value} (h : ∃ cd, PySem.W.clsIn K A = some cd ∧ cd.mro = .ref A :: l) (i : PySem.W.isClsIn K C = true) (t : PySem.W.typeIn K (.ref C) = some (.type "type")) : PySem.W.kitCls K (.ref A) (.ref C) = some ((Value.ref A :: l).contains (.ref C)) ∧ PySem.W.kitOne K (.ref A) (.ref C) = some ((Value.ref A :: l).contains (.ref C)) := by
  have i' : (PySem.W.clsIn K C).isSome = true := i
  have e : PySem.W.kitCls K (.ref A) (.ref C) = some ((Value.ref A :: l).contains (.ref C)) := by
    show (if ((PySem.W.clsIn K C).isSome && PySem.W.typeIn K (.ref C) == some (.type "type")) = true then PySem.W.subIn K (.ref A) (.ref C) else none) = _
    rw [i', t, if_pos (by rfl)]
    exact sub_of h (by simp) _
  refine ⟨e, ?_⟩
  unfold PySem.W.kitOne
  split
  · rename_i z
    have z' := eq_of_beq z
    rw [z']
    simp
  · exact e
theorem cont_ref {A Fm Pe C : Addr} : (Value.ref A :: bmOf Fm Pe).contains (.ref C) = (decide (A = C) || (decide (Fm = C) || decide (Pe = C))) := by
  have r : ∀ B : Addr, ((Value.ref C) == (Value.ref B)) = decide (B = C) := fun B => by
    by_cases z : B = C
    · rw [z, decide_eq_true rfl]
      exact beq_self_eq_true _
    · rw [decide_eq_false z]
      exact beq_false_of_ne fun e => z (Value.ref.inj e).symm
  have t : ∀ s : String, ((Value.ref C) == (Value.type s)) = false := fun s => beq_false_of_ne fun e => by cases e
  unfold bmOf
  rw [List.contains_cons, List.contains_cons, List.contains_cons, List.contains_cons, List.contains_cons, List.contains_cons, List.contains_cons, r, r, r, t, t, t, t, List.contains_nil, Bool.or_false, Bool.or_false, Bool.or_false, Bool.or_false, Bool.or_false]
structure Lay (C Fm : Nat → Addr) (Pe : Addr) : Prop where
  cc : ∀ m n, m < 17 → n < 17 → C m = C n → m = n
  cf : ∀ m j, m < 17 → j < 4 → C m ≠ Fm j
  cp : ∀ m, m < 17 → C m ≠ Pe
  ff : ∀ i j, i < 4 → j < 4 → Fm i = Fm j → i = j
  fp : ∀ j, j < 4 → Fm j ≠ Pe
theorem kit_mk (T : Txt K mg) (hM : ∀ m, m < 17 → ∃ cd, PySem.W.clsIn K (T.C m) = some cd ∧ cd.mro = .ref (T.C m) :: bmOf (T.fam (famOf m)) T.x_PlanError.C) (tC : ∀ m, m < 17 → PySem.W.typeIn K (.ref (T.C m)) = some (.type "type"))
    (iF : ∀ j, j < 4 → PySem.W.isClsIn K (T.fam j) = true ∧ PySem.W.typeIn K (.ref (T.fam j)) = some (.type "type") ∧ PySem.W.subIn K (.ref (T.fam j)) (.type "BaseException") = some true)
    (iP : PySem.W.isClsIn K T.x_PlanError.C = true ∧ PySem.W.typeIn K (.ref T.x_PlanError.C) = some (.type "type")) (L : Lay T.C T.fam T.x_PlanError.C) : Kit T := by
  have iC : ∀ m, m < 17 → PySem.W.isClsIn K (T.C m) = true := fun m hm => by
    obtain ⟨cd, e, _⟩ := hM m hm
    unfold PySem.W.isClsIn
    rw [e]
    rfl
  refine ⟨fun m n hm hn => ?_, fun m j hm hj => ?_, fun m hm => ?_, fun m hm => ?_, fun m j hm hj => ?_⟩
  · rw [(kit_of (hM m hm) (iC n hn) (tC n hn)).2, cont_ref]
    have a := L.cf n (famOf m) hn (famLt m)
    have b := L.cp n hn
    rw [decide_eq_false (p := T.fam (famOf m) = T.C n) (fun z => a z.symm), decide_eq_false (p := T.x_PlanError.C = T.C n) (fun z => b z.symm)]
    congr 1
    rw [Bool.or_false, Bool.or_false]
    exact decide_eq_decide.mpr ⟨fun z => L.cc m n hm hn z, fun z => by rw [z]⟩
  · rw [(kit_of (hM m hm) (iF j hj).1 (iF j hj).2.1).2, cont_ref]
    rw [decide_eq_false (L.cf m j hm hj), decide_eq_false (p := T.x_PlanError.C = T.fam j) (fun z => L.fp j hj z.symm)]
    congr 1
    rw [Bool.or_false, Bool.false_or]
    exact decide_eq_decide.mpr ⟨fun z => L.ff _ j (famLt m) hj z, fun z => by rw [z]⟩
  · rw [(kit_of (hM m hm) iP.1 iP.2).2, cont_ref, decide_eq_true (rfl : T.x_PlanError.C = T.x_PlanError.C), Bool.or_true, Bool.or_true]
  · unfold PySem.W.kitOne
    rw [if_neg (by intro z; have := eq_of_beq z; cases this)]
    show (if PySem.W.kitMeta "ValueError" = true then PySem.W.subIn K (.ref (T.C m)) (.type "ValueError") else none) = _
    rw [if_pos (by decide +kernel), sub_of (hM m hm) (by simp)]
    simp [bmOf]
  · unfold PySem.W.exmOne
    rw [(iF j hj).2.2, if_pos (by rfl), (kit_of (hM m hm) (iF j hj).1 (iF j hj).2.1).1, cont_ref]
    rw [decide_eq_false (L.cf m j hm hj), decide_eq_false (p := T.x_PlanError.C = T.fam j) (fun z => L.fp j hj z.symm)]
    congr 1
    rw [Bool.or_false, Bool.false_or]
    exact decide_eq_decide.mpr ⟨fun z => L.ff _ j (famLt m) hj z, fun z => by rw [z]⟩

def cOf (C0 C1 C2 C3 C4 C5 C6 C7 C8 C9 C10 C11 C12 C13 C14 C15 C16 : Addr) : Nat → Addr
  | 0 => C0
  | 1 => C1
  | 2 => C2
  | 3 => C3
  | 4 => C4
  | 5 => C5
  | 6 => C6
  | 7 => C7
  | 8 => C8
  | 9 => C9
  | 10 => C10
  | 11 => C11
  | 12 => C12
  | 13 => C13
  | 14 => C14
  | 15 => C15
  | 16 => C16
  | _ => 0
def fOf (F0 F1 F2 F3 : Addr) : Nat → Addr
  | 0 => F0
  | 1 => F1
  | 2 => F2
  | _ => F3
theorem lay_of {C0 C1 C2 C3 C4 C5 C6 C7 C8 C9 C10 C11 C12 C13 C14 C15 C16 F0 F1 F2 F3 Pe : Addr} (nd : ([C0, C1, C2, C3, C4, C5, C6, C7, C8, C9, C10, C11, C12, C13, C14, C15, C16, F0, F1, F2, F3, Pe] : List Addr).Nodup) : Lay (cOf C0 C1 C2 C3 C4 C5 C6 C7 C8 C9 C10 C11 C12 C13 C14 C15 C16) (fOf F0 F1 F2 F3) Pe := by
  have inj : ∀ i j, i < 22 → j < 22 → ([C0, C1, C2, C3, C4, C5, C6, C7, C8, C9, C10, C11, C12, C13, C14, C15, C16, F0, F1, F2, F3, Pe] : List Addr)[i]? = ([C0, C1, C2, C3, C4, C5, C6, C7, C8, C9, C10, C11, C12, C13, C14, C15, C16, F0, F1, F2, F3, Pe] : List Addr)[j]? → i = j := fun i j hi hj e => by
    have q := List.pairwise_iff_getElem.mp nd
    rw [List.getElem?_eq_getElem (by simp; omega), List.getElem?_eq_getElem (by simp; omega)] at e
    have e' := Option.some.inj e
    rcases Nat.lt_trichotomy i j with c | c | c
    · exact absurd e' (q i j _ _ c)
    · exact c
    · exact absurd e'.symm (q j i _ _ c)
  have hc : ∀ m, m < 17 → ([C0, C1, C2, C3, C4, C5, C6, C7, C8, C9, C10, C11, C12, C13, C14, C15, C16, F0, F1, F2, F3, Pe] : List Addr)[m]? = some (cOf C0 C1 C2 C3 C4 C5 C6 C7 C8 C9 C10 C11 C12 C13 C14 C15 C16 m) := fun m hm => by
    match m, hm with
    | 0, _ => rfl
    | 1, _ => rfl
    | 2, _ => rfl
    | 3, _ => rfl
    | 4, _ => rfl
    | 5, _ => rfl
    | 6, _ => rfl
    | 7, _ => rfl
    | 8, _ => rfl
    | 9, _ => rfl
    | 10, _ => rfl
    | 11, _ => rfl
    | 12, _ => rfl
    | 13, _ => rfl
    | 14, _ => rfl
    | 15, _ => rfl
    | 16, _ => rfl
    | m + 17, h => exact absurd h (by omega)
  have hf : ∀ j, j < 4 → ([C0, C1, C2, C3, C4, C5, C6, C7, C8, C9, C10, C11, C12, C13, C14, C15, C16, F0, F1, F2, F3, Pe] : List Addr)[17 + j]? = some (fOf F0 F1 F2 F3 j) := fun j hj => by
    match j, hj with
    | 0, _ => rfl
    | 1, _ => rfl
    | 2, _ => rfl
    | 3, _ => rfl
    | m + 4, h => exact absurd h (by omega)
  have hp : ([C0, C1, C2, C3, C4, C5, C6, C7, C8, C9, C10, C11, C12, C13, C14, C15, C16, F0, F1, F2, F3, Pe] : List Addr)[21]? = some Pe := rfl
  refine ⟨fun m n hm hn e => inj m n (by omega) (by omega) (by rw [hc m hm, hc n hn, e]), fun m j hm hj e => ?_, fun m hm e => ?_, fun i j hi hj e => ?_, fun j hj e => ?_⟩
  · have := inj m (17 + j) (by omega) (by omega) (by rw [hc m hm, hf j hj, e])
    omega
  · have := inj m 21 (by omega) (by omega) (by rw [hc m hm, hp, e])
    omega
  · have := inj (17 + i) (17 + j) (by omega) (by omega) (by rw [hf i hi, hf j hj, e])
    omega
  · have := inj (17 + j) 21 (by omega) (by omega) (by rw [hf j hj, hp, e])
    omega

theorem all_mk {l : PySem.W.OpenLaw} {w : World} {fa Pe F0 F1 F2 F3 C0 C1 C2 C3 C4 C5 C6 C7 C8 C9 C10 C11 C12 C13 C14 C15 C16 g0 g1 g2 g3 g4 g5 g6 g7 g8 g9 g10 g11 g12 g13 g14 g15 g16 f0 f1 f2 f3 f4 f5 f6 f7 f8 f9 f10 fL : Addr} (X : K.In h) (G : h.Ns mainGlobals mg) (hfa : mg "law" = some (.ref fa))
    (cP : Cb K "PlanError" Pe)
    (cF0 : Cb K "DataError" F0)
    (cF1 : Cb K "CallError" F1)
    (cF2 : Cb K "TextError" F2)
    (cF3 : Cb K "DeskError" F3)
    (c0 : Cl K "BadName" "BadName.__init__" sI_BadName ["at"] F0 Pe C0 g0)
    (c1 : Cl K "BadHands" "BadHands.__init__" sI_BadHands ["at", "word"] F0 Pe C1 g1)
    (c2 : Cl K "BadCalendar" "BadCalendar.__init__" sI_BadCalendar ["at", "word"] F0 Pe C2 g2)
    (c3 : Cl K "BadSheet" "BadSheet.__init__" sI_BadSheet ["at", "word"] F0 Pe C3 g3)
    (c4 : Cl K "BadPlan" "BadPlan.__init__" sI_BadPlan ["at", "word"] F0 Pe C4 g4)
    (c5 : Cl K "BadLadders" "BadLadders.__init__" sI_BadLadders ["at", "word"] F0 Pe C5 g5)
    (c6 : Cl K "BadHouse" "BadHouse.__init__" sI_BadHouse ["at", "word"] F0 Pe C6 g6)
    (c7 : Cl K "BadBare" "BadBare.__init__" sI_BadBare ["at", "word"] F0 Pe C7 g7)
    (c8 : Cl K "BadJobs" "BadJobs.__init__" sI_BadJobs ["at", "word"] F0 Pe C8 g8)
    (c9 : Cl K "BadJournal" "BadJournal.__init__" sI_BadJournal ["at", "word"] F0 Pe C9 g9)
    (c10 : Cl K "BadClaim" "BadClaim.__init__" sI_BadClaim ["word"] F0 Pe C10 g10)
    (c11 : Cl K "BadStep" "BadStep.__init__" sI_BadStep ["word"] F1 Pe C11 g11)
    (c12 : Cl K "BadText" "BadText.__init__" sI_BadText ["line", "word"] F2 Pe C12 g12)
    (c13 : Cl K "BadCommand" "BadCommand.__init__" sI_BadCommand ["line"] F2 Pe C13 g13)
    (c14 : Cl K "NoSuch" "NoSuch.__init__" sI_NoSuch ["word", "name"] F3 Pe C14 g14)
    (c15 : Cl K "Taken" "Taken.__init__" sI_Taken ["name"] F3 Pe C15 g15)
    (c16 : Cl K "NoPlan" "NoPlan.__init__" sI_NoPlan ["paper"] F3 Pe C16 g16)
    (d0 : Df K "_law_take" s_law_take f0)
    (d1 : Df K "_law_same" s_law_same f1)
    (d2 : Df K "_law_made" s_law_made f2)
    (d3 : Df K "_law_is" s_law_is f3)
    (d4 : Df K "_law_fields" s_law_fields f4)
    (d5 : Df K "_law_family" s_law_family f5)
    (d6 : Df K "_law_two" s_law_two f6)
    (d7 : Df K "_law_thing" s_law_thing f7)
    (d8 : Df K "_law_raise" s_law_raise f8)
    (d9 : Df K "_law_caught" s_law_caught f9)
    (d10 : Df K "_law_holds" s_law_holds f10)
    (dL : Df K "law" slaw fL)
    (z_len : PySem.W.nsIn K mainGlobals "len" = some none)
    (z_isinstance : PySem.W.nsIn K mainGlobals "isinstance" = some none)
    (z_abs : PySem.W.nsIn K mainGlobals "abs" = some none)
    (z_all : PySem.W.nsIn K mainGlobals "all" = some none)
    (z_int : PySem.W.nsIn K mainGlobals "int" = some none)
    (z_str : PySem.W.nsIn K mainGlobals "str" = some none)
    (z_bool : PySem.W.nsIn K mainGlobals "bool" = some none)
    (z_list : PySem.W.nsIn K mainGlobals "list" = some none)
    (z_tuple : PySem.W.nsIn K mainGlobals "tuple" = some none)
    (z_range : PySem.W.nsIn K mainGlobals "range" = some none)
    (z_ValueError : PySem.W.nsIn K mainGlobals "ValueError" = some none)
    (hn : PySem.W.specialIn K (.builtin "object.__class__") "__get__" = some (some (.builtin "getset_descriptor.__get__")))
    (ht : PySem.W.takesIn K (.builtin "object.__class__") = some true)
    (nd : ([C0, C1, C2, C3, C4, C5, C6, C7, C8, C9, C10, C11, C12, C13, C14, C15, C16, F0, F1, F2, F3, Pe] : List Addr).Nodup) :
    ∃ fd : FuncData, (∀ (s : Shared) (v : Value), BindsTo s fd ⟨[v], []⟩ [("script", v)]) ∧ ∀ base : Heap, K.In base → base.Ns mainGlobals mg → FnOk l.prog w K mg base CX0 7 fa fd ["script"] (spLaw K) := by
  have e := hfa.symm.trans (PySem.W.mg_of X G dL.g)
  cases e
  obtain ⟨tP, eP⟩ := cP.cg X G
  obtain ⟨tF0, eF0⟩ := cF0.cg X G
  obtain ⟨tF1, eF1⟩ := cF1.cg X G
  obtain ⟨tF2, eF2⟩ := cF2.cg X G
  obtain ⟨tF3, eF3⟩ := cF3.cg X G
  obtain ⟨t0, e0⟩ := c0.xc X G hn ht
  obtain ⟨t1, e1⟩ := c1.xc X G hn ht
  obtain ⟨t2, e2⟩ := c2.xc X G hn ht
  obtain ⟨t3, e3⟩ := c3.xc X G hn ht
  obtain ⟨t4, e4⟩ := c4.xc X G hn ht
  obtain ⟨t5, e5⟩ := c5.xc X G hn ht
  obtain ⟨t6, e6⟩ := c6.xc X G hn ht
  obtain ⟨t7, e7⟩ := c7.xc X G hn ht
  obtain ⟨t8, e8⟩ := c8.xc X G hn ht
  obtain ⟨t9, e9⟩ := c9.xc X G hn ht
  obtain ⟨t10, e10⟩ := c10.xc X G hn ht
  obtain ⟨t11, e11⟩ := c11.xc X G hn ht
  obtain ⟨t12, e12⟩ := c12.xc X G hn ht
  obtain ⟨t13, e13⟩ := c13.xc X G hn ht
  obtain ⟨t14, e14⟩ := c14.xc X G hn ht
  obtain ⟨t15, e15⟩ := c15.xc X G hn ht
  obtain ⟨t16, e16⟩ := c16.xc X G hn ht
  obtain ⟨u0, h0⟩ := d0.fd (ps := ["pool", "many"]) X G (fun fd F => F.binds fun _ _ _ _ _ _ us hl => match us, hl with | [_, _], _ => rfl)
  obtain ⟨u1, h1⟩ := d1.fd (ps := ["told", "due"]) X G (fun fd F => F.binds fun _ _ _ _ _ _ us hl => match us, hl with | [_, _], _ => rfl)
  obtain ⟨u2, h2⟩ := d2.fd (ps := ["number", "one", "other", "named"]) X G (fun fd F => F.binds fun _ _ _ _ _ _ us hl => match us, hl with | [_, _, _, _], _ => rfl)
  obtain ⟨u3, h3⟩ := d3.fd (ps := ["number", "error"]) X G (fun fd F => F.binds fun _ _ _ _ _ _ us hl => match us, hl with | [_, _], _ => rfl)
  obtain ⟨u4, h4⟩ := d4.fd (ps := ["number", "error"]) X G (fun fd F => F.binds fun _ _ _ _ _ _ us hl => match us, hl with | [_, _], _ => rfl)
  obtain ⟨u5, h5⟩ := d5.fd (ps := ["number"]) X G (fun fd F => F.binds fun _ _ _ _ _ _ us hl => match us, hl with | [_], _ => rfl)
  obtain ⟨u6, h6⟩ := d6.fd (ps := ["number"]) X G (fun fd F => F.binds fun _ _ _ _ _ _ us hl => match us, hl with | [_], _ => rfl)
  obtain ⟨u7, h7⟩ := d7.fd (ps := ["pool", "depth"]) X G (fun fd F => F.binds fun _ _ _ _ _ _ us hl => match us, hl with | [_, _], _ => rfl)
  obtain ⟨u8, h8⟩ := d8.fd (ps := ["number", "one", "other"]) X G (fun fd F => F.binds fun _ _ _ _ _ _ us hl => match us, hl with | [_, _, _], _ => rfl)
  obtain ⟨u9, h9⟩ := d9.fd (ps := ["number", "one", "other"]) X G (fun fd F => F.binds fun _ _ _ _ _ _ us hl => match us, hl with | [_, _, _], _ => rfl)
  obtain ⟨u10, h10⟩ := d10.fd (ps := ["pool", "number"]) X G (fun fd F => F.binds fun _ _ _ _ _ _ us hl => match us, hl with | [_, _], _ => rfl)
  let T : Txt K mg := ⟨⟨PySem.W.mg_none_of X G z_len, PySem.W.mg_none_of X G z_isinstance, PySem.W.mg_none_of X G z_abs, PySem.W.mg_none_of X G z_all, PySem.W.mg_none_of X G z_int, PySem.W.mg_none_of X G z_str, PySem.W.mg_none_of X G z_bool, PySem.W.mg_none_of X G z_list, PySem.W.mg_none_of X G z_tuple, PySem.W.mg_none_of X G z_range, PySem.W.mg_none_of X G z_ValueError⟩, t0, t1, t2, t3, t4, t5, t6, t7, t8, t9, t10, t11, t12, t13, t14, t15, t16, tP, tF0, tF1, tF2, tF3, u0, u1, u2, u3, u4, u5, u6, u7, u8, u9, u10⟩
  have hC : T.C = cOf C0 C1 C2 C3 C4 C5 C6 C7 C8 C9 C10 C11 C12 C13 C14 C15 C16 := by
    funext m
    match m with
    | 0 => exact e0
    | 1 => exact e1
    | 2 => exact e2
    | 3 => exact e3
    | 4 => exact e4
    | 5 => exact e5
    | 6 => exact e6
    | 7 => exact e7
    | 8 => exact e8
    | 9 => exact e9
    | 10 => exact e10
    | 11 => exact e11
    | 12 => exact e12
    | 13 => exact e13
    | 14 => exact e14
    | 15 => exact e15
    | 16 => exact e16
    | m + 17 => rfl
  have hF : T.fam = fOf F0 F1 F2 F3 := by
    funext m
    match m with
    | 0 => exact eF0
    | 1 => exact eF1
    | 2 => exact eF2
    | m + 3 => exact eF3
  have hP : T.x_PlanError.C = Pe := eP
  have Z : Kit T := by
    refine kit_mk T (fun m hm => ?_) (fun m hm => ?_) (fun j hj => ?_) ?_ ?_
    · rw [hC, hF, hP]
      match m, hm with
      | 0, _ => exact c0.mro
      | 1, _ => exact c1.mro
      | 2, _ => exact c2.mro
      | 3, _ => exact c3.mro
      | 4, _ => exact c4.mro
      | 5, _ => exact c5.mro
      | 6, _ => exact c6.mro
      | 7, _ => exact c7.mro
      | 8, _ => exact c8.mro
      | 9, _ => exact c9.mro
      | 10, _ => exact c10.mro
      | 11, _ => exact c11.mro
      | 12, _ => exact c12.mro
      | 13, _ => exact c13.mro
      | 14, _ => exact c14.mro
      | 15, _ => exact c15.mro
      | 16, _ => exact c16.mro
      | m + 17, h => exact absurd h (by omega)
    · rw [hC]
      match m, hm with
      | 0, _ => exact c0.tC
      | 1, _ => exact c1.tC
      | 2, _ => exact c2.tC
      | 3, _ => exact c3.tC
      | 4, _ => exact c4.tC
      | 5, _ => exact c5.tC
      | 6, _ => exact c6.tC
      | 7, _ => exact c7.tC
      | 8, _ => exact c8.tC
      | 9, _ => exact c9.tC
      | 10, _ => exact c10.tC
      | 11, _ => exact c11.tC
      | 12, _ => exact c12.tC
      | 13, _ => exact c13.tC
      | 14, _ => exact c14.tC
      | 15, _ => exact c15.tC
      | 16, _ => exact c16.tC
      | m + 17, h => exact absurd h (by omega)
    · rw [hF]
      match j, hj with
      | 0, _ => exact ⟨cF0.iC, cF0.tC, cF0.exC⟩
      | 1, _ => exact ⟨cF1.iC, cF1.tC, cF1.exC⟩
      | 2, _ => exact ⟨cF2.iC, cF2.tC, cF2.exC⟩
      | 3, _ => exact ⟨cF3.iC, cF3.tC, cF3.exC⟩
      | m + 4, h => exact absurd h (by omega)
    · rw [hP]
      exact ⟨cP.iC, cP.tC⟩
    · rw [hC, hF, hP]
      exact lay_of nd
  obtain ⟨oc, od, kV, doc, pm, an, cdv, ct, osl, l', e'⟩ := dL.fn
  have FL := fun_mk (st := slaw) l' e' dL.k
  exact ⟨_, fun s v => .of_eq rfl, fun base _ _ => ok_law FL T Z⟩
theorem walk {l : PySem.W.OpenLaw} {q : Program} {loose : List Str} {XP : (Str → Option Value) → Heap → Prop} {YP : World → Heap → Prop} {d : DefRec} {K : Params → PySem.W.Frag} (hn : l.most = some 63) (hdf : d.params.defaults = [])
    (hY : ∀ (w : World) (h : Heap), YP w h → (K w.params).In h)
    (F : ∀ (w : World) (mg : Str → Option Value) (fa : Addr) (h : Heap), (K w.params).In h → h.Ns mainGlobals mg → mg d.name = some (.ref fa) →
      ∃ fd : FuncData, (∀ (s : Shared) (u : Value), BindsTo s fd ⟨[u], []⟩ [("script", u)]) ∧ ∀ base : Heap, (K w.params).In base → base.Ns mainGlobals mg → FnOk l.prog w (K w.params) mg base CX0 7 fa fd ["script"] (spLaw (K w.params))) :
    PySem.W.WalkO q loose XP YP l.row.toRowW d [] (fun f vs => PySem.call f vs) :=
  L2.walk_of (n := 63) (k := 7) (x := "script") (CX := fun _ => CX0) (sp := fun w => spLaw (K w.params)) hn (by decide) hdf ⟨rfl, by decide, by decide⟩ hY F (fun _ _ a ns hl _ hS => ⟨a, ns, rfl, hS, hl, fun _ => rfl⟩) fun _ _ _ _ _ z => z
end
end K98
set_option Elab.async false
open PySem PySem.W PyProof.Rows
set_option maxRecDepth 100000 in
set_option maxHeartbeats 0 in
theorem PySem.Challenge.cw_donebytwo_k98_whole_errors_holds : PySem.Challenge.rw_donebytwo_k98_whole_errors.Holds := by
  w_on; o_law; k_head; (case hw => w_witness2)
  k_fill
  refine K98.walk (l := PySem.Challenge.rw_donebytwo_k98_whole_errors) rfl rfl (fun w h Y => PySem.W.kIn_of Y) ?F
  case F =>
    intro w mg fa h KX G hmg
    refine' K98.all_mk KX G hmg ?cP ?cF0 ?cF1 ?cF2 ?cF3 ?c0 ?c1 ?c2 ?c3 ?c4 ?c5 ?c6 ?c7 ?c8 ?c9 ?c10 ?c11 ?c12 ?c13 ?c14 ?c15 ?c16 ?d0 ?d1 ?d2 ?d3 ?d4 ?d5 ?d6 ?d7 ?d8 ?d9 ?d10 ?dL ?z_len ?z_isinstance ?z_abs ?z_all ?z_int ?z_str ?z_bool ?z_list ?z_tuple ?z_range ?z_ValueError ?hn ?ht ?nd
    (case cP => refine' K98.Cb.mk ?g ?iC ?tC ?exC; (case g => k_is); (case iC => k_is); (case tC => k_is); (case exC => k_is))
    (case cF0 => refine' K98.Cb.mk ?g ?iC ?tC ?exC; (case g => k_is); (case iC => k_is); (case tC => k_is); (case exC => k_is))
    (case cF1 => refine' K98.Cb.mk ?g ?iC ?tC ?exC; (case g => k_is); (case iC => k_is); (case tC => k_is); (case exC => k_is))
    (case cF2 => refine' K98.Cb.mk ?g ?iC ?tC ?exC; (case g => k_is); (case iC => k_is); (case tC => k_is); (case exC => k_is))
    (case cF3 => refine' K98.Cb.mk ?g ?iC ?tC ?exC; (case g => k_is); (case iC => k_is); (case tC => k_is); (case exC => k_is))
    (case c0 => refine' K98.Cl.of1 ?g ?lk ?sa ?ga ?gg ?cl ?kC ?tC ?hd ?exC ?hm ?iI ?tI ?l ?c ?kI ?nf; (case g => k_is); (case lk => k_is); (case sa => k_is); (case ga => k_is); (case gg => k_is); (case cl => k_is); (case kC => k_is); (case tC => k_is); (case hd => k_is); (case exC => k_is); (case hm => k_is); (case iI => k_is); (case tI => k_is); (case l => k_is); (case c => k_is); (case kI => k_is); (case nf => k_is))
    (case c1 => refine' K98.Cl.of2 ?g ?lk ?sa ?ga ?gg ?cl ?kC ?tC ?hd ?exC ?hm ?iI ?tI ?l ?c ?kI ?nf ?nf2; (case g => k_is); (case lk => k_is); (case sa => k_is); (case ga => k_is); (case gg => k_is); (case cl => k_is); (case kC => k_is); (case tC => k_is); (case hd => k_is); (case exC => k_is); (case hm => k_is); (case iI => k_is); (case tI => k_is); (case l => k_is); (case c => k_is); (case kI => k_is); (case nf => k_is); (case nf2 => k_is))
    (case c2 => refine' K98.Cl.of2 ?g ?lk ?sa ?ga ?gg ?cl ?kC ?tC ?hd ?exC ?hm ?iI ?tI ?l ?c ?kI ?nf ?nf2; (case g => k_is); (case lk => k_is); (case sa => k_is); (case ga => k_is); (case gg => k_is); (case cl => k_is); (case kC => k_is); (case tC => k_is); (case hd => k_is); (case exC => k_is); (case hm => k_is); (case iI => k_is); (case tI => k_is); (case l => k_is); (case c => k_is); (case kI => k_is); (case nf => k_is); (case nf2 => k_is))
    (case c3 => refine' K98.Cl.of2 ?g ?lk ?sa ?ga ?gg ?cl ?kC ?tC ?hd ?exC ?hm ?iI ?tI ?l ?c ?kI ?nf ?nf2; (case g => k_is); (case lk => k_is); (case sa => k_is); (case ga => k_is); (case gg => k_is); (case cl => k_is); (case kC => k_is); (case tC => k_is); (case hd => k_is); (case exC => k_is); (case hm => k_is); (case iI => k_is); (case tI => k_is); (case l => k_is); (case c => k_is); (case kI => k_is); (case nf => k_is); (case nf2 => k_is))
    (case c4 => refine' K98.Cl.of2 ?g ?lk ?sa ?ga ?gg ?cl ?kC ?tC ?hd ?exC ?hm ?iI ?tI ?l ?c ?kI ?nf ?nf2; (case g => k_is); (case lk => k_is); (case sa => k_is); (case ga => k_is); (case gg => k_is); (case cl => k_is); (case kC => k_is); (case tC => k_is); (case hd => k_is); (case exC => k_is); (case hm => k_is); (case iI => k_is); (case tI => k_is); (case l => k_is); (case c => k_is); (case kI => k_is); (case nf => k_is); (case nf2 => k_is))
    (case c5 => refine' K98.Cl.of2 ?g ?lk ?sa ?ga ?gg ?cl ?kC ?tC ?hd ?exC ?hm ?iI ?tI ?l ?c ?kI ?nf ?nf2; (case g => k_is); (case lk => k_is); (case sa => k_is); (case ga => k_is); (case gg => k_is); (case cl => k_is); (case kC => k_is); (case tC => k_is); (case hd => k_is); (case exC => k_is); (case hm => k_is); (case iI => k_is); (case tI => k_is); (case l => k_is); (case c => k_is); (case kI => k_is); (case nf => k_is); (case nf2 => k_is))
    (case c6 => refine' K98.Cl.of2 ?g ?lk ?sa ?ga ?gg ?cl ?kC ?tC ?hd ?exC ?hm ?iI ?tI ?l ?c ?kI ?nf ?nf2; (case g => k_is); (case lk => k_is); (case sa => k_is); (case ga => k_is); (case gg => k_is); (case cl => k_is); (case kC => k_is); (case tC => k_is); (case hd => k_is); (case exC => k_is); (case hm => k_is); (case iI => k_is); (case tI => k_is); (case l => k_is); (case c => k_is); (case kI => k_is); (case nf => k_is); (case nf2 => k_is))
    (case c7 => refine' K98.Cl.of2 ?g ?lk ?sa ?ga ?gg ?cl ?kC ?tC ?hd ?exC ?hm ?iI ?tI ?l ?c ?kI ?nf ?nf2; (case g => k_is); (case lk => k_is); (case sa => k_is); (case ga => k_is); (case gg => k_is); (case cl => k_is); (case kC => k_is); (case tC => k_is); (case hd => k_is); (case exC => k_is); (case hm => k_is); (case iI => k_is); (case tI => k_is); (case l => k_is); (case c => k_is); (case kI => k_is); (case nf => k_is); (case nf2 => k_is))
    (case c8 => refine' K98.Cl.of2 ?g ?lk ?sa ?ga ?gg ?cl ?kC ?tC ?hd ?exC ?hm ?iI ?tI ?l ?c ?kI ?nf ?nf2; (case g => k_is); (case lk => k_is); (case sa => k_is); (case ga => k_is); (case gg => k_is); (case cl => k_is); (case kC => k_is); (case tC => k_is); (case hd => k_is); (case exC => k_is); (case hm => k_is); (case iI => k_is); (case tI => k_is); (case l => k_is); (case c => k_is); (case kI => k_is); (case nf => k_is); (case nf2 => k_is))
    (case c9 => refine' K98.Cl.of2 ?g ?lk ?sa ?ga ?gg ?cl ?kC ?tC ?hd ?exC ?hm ?iI ?tI ?l ?c ?kI ?nf ?nf2; (case g => k_is); (case lk => k_is); (case sa => k_is); (case ga => k_is); (case gg => k_is); (case cl => k_is); (case kC => k_is); (case tC => k_is); (case hd => k_is); (case exC => k_is); (case hm => k_is); (case iI => k_is); (case tI => k_is); (case l => k_is); (case c => k_is); (case kI => k_is); (case nf => k_is); (case nf2 => k_is))
    (case c10 => refine' K98.Cl.of1 ?g ?lk ?sa ?ga ?gg ?cl ?kC ?tC ?hd ?exC ?hm ?iI ?tI ?l ?c ?kI ?nf; (case g => k_is); (case lk => k_is); (case sa => k_is); (case ga => k_is); (case gg => k_is); (case cl => k_is); (case kC => k_is); (case tC => k_is); (case hd => k_is); (case exC => k_is); (case hm => k_is); (case iI => k_is); (case tI => k_is); (case l => k_is); (case c => k_is); (case kI => k_is); (case nf => k_is))
    (case c11 => refine' K98.Cl.of1 ?g ?lk ?sa ?ga ?gg ?cl ?kC ?tC ?hd ?exC ?hm ?iI ?tI ?l ?c ?kI ?nf; (case g => k_is); (case lk => k_is); (case sa => k_is); (case ga => k_is); (case gg => k_is); (case cl => k_is); (case kC => k_is); (case tC => k_is); (case hd => k_is); (case exC => k_is); (case hm => k_is); (case iI => k_is); (case tI => k_is); (case l => k_is); (case c => k_is); (case kI => k_is); (case nf => k_is))
    (case c12 => refine' K98.Cl.of2 ?g ?lk ?sa ?ga ?gg ?cl ?kC ?tC ?hd ?exC ?hm ?iI ?tI ?l ?c ?kI ?nf ?nf2; (case g => k_is); (case lk => k_is); (case sa => k_is); (case ga => k_is); (case gg => k_is); (case cl => k_is); (case kC => k_is); (case tC => k_is); (case hd => k_is); (case exC => k_is); (case hm => k_is); (case iI => k_is); (case tI => k_is); (case l => k_is); (case c => k_is); (case kI => k_is); (case nf => k_is); (case nf2 => k_is))
    (case c13 => refine' K98.Cl.of1 ?g ?lk ?sa ?ga ?gg ?cl ?kC ?tC ?hd ?exC ?hm ?iI ?tI ?l ?c ?kI ?nf; (case g => k_is); (case lk => k_is); (case sa => k_is); (case ga => k_is); (case gg => k_is); (case cl => k_is); (case kC => k_is); (case tC => k_is); (case hd => k_is); (case exC => k_is); (case hm => k_is); (case iI => k_is); (case tI => k_is); (case l => k_is); (case c => k_is); (case kI => k_is); (case nf => k_is))
    (case c14 => refine' K98.Cl.of2 ?g ?lk ?sa ?ga ?gg ?cl ?kC ?tC ?hd ?exC ?hm ?iI ?tI ?l ?c ?kI ?nf ?nf2; (case g => k_is); (case lk => k_is); (case sa => k_is); (case ga => k_is); (case gg => k_is); (case cl => k_is); (case kC => k_is); (case tC => k_is); (case hd => k_is); (case exC => k_is); (case hm => k_is); (case iI => k_is); (case tI => k_is); (case l => k_is); (case c => k_is); (case kI => k_is); (case nf => k_is); (case nf2 => k_is))
    (case c15 => refine' K98.Cl.of1 ?g ?lk ?sa ?ga ?gg ?cl ?kC ?tC ?hd ?exC ?hm ?iI ?tI ?l ?c ?kI ?nf; (case g => k_is); (case lk => k_is); (case sa => k_is); (case ga => k_is); (case gg => k_is); (case cl => k_is); (case kC => k_is); (case tC => k_is); (case hd => k_is); (case exC => k_is); (case hm => k_is); (case iI => k_is); (case tI => k_is); (case l => k_is); (case c => k_is); (case kI => k_is); (case nf => k_is))
    (case c16 => refine' K98.Cl.of1 ?g ?lk ?sa ?ga ?gg ?cl ?kC ?tC ?hd ?exC ?hm ?iI ?tI ?l ?c ?kI ?nf; (case g => k_is); (case lk => k_is); (case sa => k_is); (case ga => k_is); (case gg => k_is); (case cl => k_is); (case kC => k_is); (case tC => k_is); (case hd => k_is); (case exC => k_is); (case hm => k_is); (case iI => k_is); (case tI => k_is); (case l => k_is); (case c => k_is); (case kI => k_is); (case nf => k_is))
    (case d0 => refine' K98.Df.of ?g ?l ?c ?k; (case g => k_is); (case l => k_is); (case c => k_is); (case k => k_is))
    (case d1 => refine' K98.Df.of ?g ?l ?c ?k; (case g => k_is); (case l => k_is); (case c => k_is); (case k => k_is))
    (case d2 => refine' K98.Df.of ?g ?l ?c ?k; (case g => k_is); (case l => k_is); (case c => k_is); (case k => k_is))
    (case d3 => refine' K98.Df.of ?g ?l ?c ?k; (case g => k_is); (case l => k_is); (case c => k_is); (case k => k_is))
    (case d4 => refine' K98.Df.of ?g ?l ?c ?k; (case g => k_is); (case l => k_is); (case c => k_is); (case k => k_is))
    (case d5 => refine' K98.Df.of ?g ?l ?c ?k; (case g => k_is); (case l => k_is); (case c => k_is); (case k => k_is))
    (case d6 => refine' K98.Df.of ?g ?l ?c ?k; (case g => k_is); (case l => k_is); (case c => k_is); (case k => k_is))
    (case d7 => refine' K98.Df.of ?g ?l ?c ?k; (case g => k_is); (case l => k_is); (case c => k_is); (case k => k_is))
    (case d8 => refine' K98.Df.of ?g ?l ?c ?k; (case g => k_is); (case l => k_is); (case c => k_is); (case k => k_is))
    (case d9 => refine' K98.Df.of ?g ?l ?c ?k; (case g => k_is); (case l => k_is); (case c => k_is); (case k => k_is))
    (case d10 => refine' K98.Df.of ?g ?l ?c ?k; (case g => k_is); (case l => k_is); (case c => k_is); (case k => k_is))
    (case dL => refine' K98.Df.of ?g ?l ?c ?k; (case g => k_is); (case l => k_is); (case c => k_is); (case k => k_is))
    (case z_len => k_is)
    (case z_isinstance => k_is)
    (case z_abs => k_is)
    (case z_all => k_is)
    (case z_int => k_is)
    (case z_str => k_is)
    (case z_bool => k_is)
    (case z_list => k_is)
    (case z_tuple => k_is)
    (case z_range => k_is)
    (case z_ValueError => k_is)
    (case hn => k_is)
    (case ht => k_is)
    (case nd => decide)
#print axioms PySem.Challenge.cw_donebytwo_k98_whole_errors_holds
