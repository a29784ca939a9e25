import PyProof.Rows.All
import Wide.All
import OpenK.AllK
import Wide.FinOn
import HandS.ForExc
import HandS.ExcInit
import HandS.Defaults
import HandS.MakeKwOnly
import HandS.HotCalls
import HandS.ExcField
import HandS.ExcIs
import HandS.IsInst
import HandS.TryMany
import KE.KExcIs
import HandS.ForMost
import HandS.Evl
import HandS.EndBits
import HandS.Wide
import HandS.TupAny
import HandS.Walk
import HandS.Strs
import KE.GoesMore
import KE.KRevSl
import HandS.DictComp
import HandS.WordsDict
import HandS.SortRule
import HandS.TupLe
import HandS.Style
import HandS.Text
import PySem.Challenge.RW_donebytwo_k82_whole_widest_and_coverings
set_option Elab.async false
set_option linter.all false
set_option maxRecDepth 100000
set_option maxHeartbeats 4000000
namespace XcK
open PySem PySem.W PySem.Calls PyProof.Rows PySem.HandSPX
section
variable {M : Model} {A : Around} {E : Value → Shared → Prop} {h : Heap} {g : Array GenState} {d : Drawn} {t : Nat} {os : OsState}
variable {nm q : Str} {C N : Addr} {bs bm bmB : List Value} {hdct : Bool} {sn : List Str} {sub : List Value} {ab : Bool} {col : Option Bool} {dd : Option Addr} {k0 k1 k2 k3 k5 : Option Value} {B newId initId : String}
/-- the look ahead of B.__new__(C, .., k = v, ..) -/
theorem checkNewKw (F : ExcBaseFacts B newId initId bmB) (hT : ∀ Y : String, bm.contains (.type Y) = bmB.contains (.type Y)) {rest : List Value} {kw : List (Str × Value)} {Q : Unit → Shared → Prop}
    (hC : h.get? C = some (excClassObj nm q C N bs bm hdct sn sub ab col dd k0 k1 k2 k3 k5 newId))
    (hq : Q () ⟨h, g, d, t, os⟩) : wpAny M A (checkBuiltinCall newId ⟨.ref C :: rest, kw⟩) Q E ⟨h, g, d, t, os⟩ := by
  have hB : (Value.ref C :: bm).contains (.type B) = true := by
    rw [List.contains_cons, hT, F.hasB]
    exact Bool.or_true _
  have hS := F.noStar
  simp only [checkBuiltinCall, F.newKind, F.newSplit, F.newRow]
  repeat (first
    | refine wpAny_loadPart_at hC ?_
    | (refine wpAny_isSubtype_exc hC ?_
       rw [hB])
    | refine wpAny_staticBase_exc hC ?_
    | refine wpAny_madeBy_exc hC ?_
    | simp only [bne_self_eq_false, Bool.false_eq_true, if_false]
    | wp_step)
  exact hq
end
section
variable {prog : Program} {w : World} {A : Around} {E : Value → Shared → Prop} {R : Result → Shared → Prop} {h : Heap} {g : Array GenState} {d : Drawn} {t : Nat} {os : OsState}
variable {nm q : Str} {C N : Addr} {bs bm bmB : List Value} {hdct : Bool} {sn : List Str} {sub : List Value} {ab : Bool} {col : Option Bool} {dd : Option Addr} {k0 k1 k2 k3 k5 : Option Value} {B newId initId : String}
/-- B.__new__(C, .., k = v, ..): a new exception at the second new address -/
theorem newKw (F : ExcBaseFacts B newId initId bmB) (hT : ∀ Y : String, bm.contains (.type Y) = bmB.contains (.type Y)) {rest : List Value} {kw : List (Str × Value)}
    (hC : h.get? C = some (excClassObj nm q C N bs bm hdct sn sub ab col dd k0 k1 k2 k3 k5 newId)) (hrest : rest.length ≤ sizeLine)
    (hq : R (.ok (.ret (.ref (h.objs.size + 1)))) ⟨(h.push (PySem.W.kdv_tup rest)).push (excO C h.objs.size), g, d, t, os⟩) :
    codeAny (model prog w) A (.builtin newId ⟨.ref C :: rest, kw⟩) R ⟨h, g, d, t, os⟩ := by
  have hE := F.ends
  have c1 : (Value.ref C :: bm).contains (.type B) = true := by
    rw [List.contains_cons, hT, F.hasB]
    exact Bool.or_true _
  have c2 : (Value.ref C :: bm).contains (.type "AttributeError") = false := by
    rw [List.contains_cons, hT, F.noAttr]
    rfl
  have c3 : (Value.ref C :: bm).contains (.type "NameError") = false := by
    rw [List.contains_cons, hT, F.noName]
    rfl
  refine codeAny_builtinAt F.entry ?_
  unfold Builtin.«BaseException.__new__»
  refine PySem.wpAt_bind ?_
  show PySem.wpAt _ _ _ (stack >>= _) _ _ _
  refine PySem.wpAt_bind (PySem.wpAt_stack fun p below => PySem.wpAt_of_wpAny ?_)
  wp_walk
  refine PySem.wpAt_of_wpAny ?_
  rw [F.owner]
  repeat (first
    | with_reducible refine wpAny_madeHere_exc F.canon hC ?_
    | with_reducible refine wpAny_loadPart_at hC ?_
    | (with_reducible refine wpAny_isSubtype_exc hC ?_
       first | rw [c1] | rw [c2] | rw [c3])
    | wp_step)
  show R _ _
  rw [Heap.size_push]
  exact hq
theorem typeCallKw (F : ExcBaseFacts B newId initId bmB) (hT : ∀ Y : String, bm.contains (.type Y) = bmB.contains (.type Y)) {rest : List Value} {kw : List (Str × Value)} {fI : Addr} {Q : Fin → Shared → Prop}
    (hC : h.get? C = some (excClassObj nm q C N bs bm hdct sn sub ab col dd k0 k1 k2 k3 k5 newId)) (hrest : rest.length ≤ sizeLine)
    (hi : W.Looks (model prog w) h (typeLookup (.ref C) "__init__") (some (.ref fI))) (hb : ∀ self, W.Looks (model prog w) h (bindSpecial (.ref fI) self) (.ref fI, [self]))
    (hq : codeAny (model prog w) A (.call (.ref fI) ⟨.ref (h.objs.size + 1) :: rest, kw⟩)
      (fun r s' => match r with
        | .ok (.ret v) => v = .none ∧ Q (.done (.ret (.ref (h.objs.size + 1)))) s'
        | .ok _ => False
        | .error e => E e s')
      ⟨(h.push (W.kdv_tup rest)).push (excO C h.objs.size), g, d, t, os⟩) :
    wpAny (model prog w) A (Builtin.«type.__call__» ⟨.ref C :: rest, kw⟩) Q E ⟨h, g, d, t, os⟩ := by
  repeat (first
    | with_reducible refine wpAny_loadPart_at hC ?_
    | with_reducible refine wpAny_madeBy_exc hC ?_
    | wp_step)
  refine codeAny_call_builtin_code (Code.quiet_builtin _ F.quiet) (checkNewKw F hT hC ?_)
  refine newKw F hT hC hrest ?_
  show wpAny _ _ _ _ _ _
  have k : ∀ b o, h.get? b = some o → ((h.push (W.kdv_tup rest)).push (excO C h.objs.size)).get? b = some o := fun b o e =>
    Heap.get?_push_of_some _ (Heap.get?_push_of_some _ e)
  have hC1 := k _ _ hC
  have hget : ((h.push (W.kdv_tup rest)).push (excO C h.objs.size)).get? (h.objs.size + 1) = some (excO C h.objs.size) := by
    heap_get
  have c4 : (Value.ref C :: bm).contains (.ref C) = true := by simp
  have i1 := hi.keeps k
  have b1 := (hb (.ref (h.objs.size + 1))).keeps k
  unfold isInstance
  repeat (first
    | with_reducible refine wpAny_loadPart_at hget ?_
    | (with_reducible refine wpAny_isSubtype_exc hC1 ?_
       rw [c4])
    | wp_step)
  show wpAny _ _ (typeLookup (.ref C) _) _ _ _
  refine i1.at ?_
  refine wpAny_holding (wpAny_bind (b1.at ?_))
  refine wpAny_bind (wpAny_call (codeAny_mono hq fun r s' z => ?_))
  rcases r with e | (v | _ | _ | _)
  · exact z
  · exact z.elim
  · exact z.elim
  · exact z.elim
  · obtain ⟨rfl, z⟩ := z
    first
      | exact wpAny_pure (wpAny_pure z)
      | (wp_walk
         exact z)
theorem checkTypeCallKw {M : Model} {rest : List Value} {kw : List (Str × Value)} {Q : Unit → Shared → Prop} (hC : h.get? C = some (excClassObj nm q C N bs bm hdct sn sub ab col dd k0 k1 k2 k3 k5 newId))
    (hq : Q () ⟨h, g, d, t, os⟩) : wpAny M A (checkBuiltinCall "type.__call__" ⟨.ref C :: rest, kw⟩) Q E ⟨h, g, d, t, os⟩ := by
  have f3 := tc_sub
  have hTy : (⟨h, g, d, t, os⟩ : Shared).TypeIs (.ref C) "type" := ⟨_, hC, rfl⟩
  simp only [checkBuiltinCall, tc_kind, tc_split]
  repeat (any_goals (first
    | assumption
    | with_reducible refine wpAny_loadPart_at hC ?_
    | with_reducible refine wpAny_onRaise ?_
    | with_reducible refine wpAny_map ?_
    | wp_step))
/-- C(.., k = v, ..) of an own exception class at C whose own __init__ is the def at fI -/
theorem callKw (F : ExcBaseFacts B newId initId bmB) (hT : ∀ Y : String, bm.contains (.type Y) = bmB.contains (.type Y)) {rest : List Value} {kw : List (Str × Value)} {fI : Addr}
    (hC : h.get? C = some (excClassObj nm q C N bs bm hdct sn sub ab col dd k0 k1 k2 k3 k5 newId)) (hrest : rest.length ≤ sizeLine)
    (hi : W.Looks (model prog w) h (typeLookup (.ref C) "__init__") (some (.ref fI))) (hb : ∀ self, W.Looks (model prog w) h (bindSpecial (.ref fI) self) (.ref fI, [self]))
    (hq : codeAny (model prog w) (A.under (.builtin "type.__call__" ⟨.ref C :: rest, kw⟩)) (.call (.ref fI) ⟨.ref (h.objs.size + 1) :: rest, kw⟩) (W.InitBack (h.objs.size + 1) R)
      ⟨(h.push (W.kdv_tup rest)).push (excO C h.objs.size), g, d, t, os⟩) :
    codeAny (model prog w) A (.call (.ref C) ⟨rest, kw⟩) R ⟨h, g, d, t, os⟩ := by
  have f1 := tc_lookup
  have f2 := tc_bind (.ref C)
  have hTy : (⟨h, g, d, t, os⟩ : Shared).TypeIs (.ref C) "type" := ⟨_, hC, rfl⟩
  refine codeAny_of_tree ?_
  show wpAny _ _ (callAny (.ref C) _) _ _ _
  repeat (any_goals (first
    | assumption
    | with_reducible refine wpAny_loadPart_at hC ?_
    | wp_step))
  refine ⟨rfl, ?_⟩
  refine codeAny_call_builtin_at (Code.quiet_builtin _ (by decide +kernel)) entry_typeCall (checkTypeCallKw hC (typeCallKw F hT hC hrest hi hb ?_))
  refine codeAny_mono hq fun r s' z => ?_
  rcases r with e | (v | _ | _ | _) <;> exact z
end
end XcK
set_option Elab.async false
set_option linter.all false
set_option maxRecDepth 100000
set_option maxHeartbeats 4000000
namespace XcV
open PySem PySem.Spec PyProof.Rows L2
abbrev St := L2.St
/-! An exception of an own class, held as a value: made by position or by names; its fields read; isinstance of it. It is tracked (exo, exd), or pinned (in an except suite). -/
/-- C(e, ..) -/
def tMkP (C : Addr) (sp : Sp) (t : TA) : TE := fun σ H Q => t σ H fun vs H1 => vs.length ≤ 1000 ∧ ∀ a, H1 a = none →
  sp (.ref a :: vs) (upd H1 a (exo a C none)) (fun v H2 => v = .non ∧ Q (.ref a) H2) (fun _ _ _ => False)
/-- C(k = v, ..) -/
def tMkW (C : Addr) (m : Nat) (sp : Sp) (gV : List V → List V → List V) (t : TA) : TE := fun σ H Q => t σ H fun zs H1 => zs.length = m ∧ ∀ a, H1 a = none →
  sp (gV [.ref a] zs) (upd H1 a (exo a C none)) (fun v H2 => v = .non ∧ Q (.ref a) H2) (fun _ _ _ => False)
/-- the class and its __init__ -/
structure XInit (K : PySem.W.Frag) (C fI : Addr) : Prop where
  T : OexC K C
  iC : PySem.W.findIn K (.ref C) "__init__" = some (some (.ref fI))
  tI : PySem.W.typeIn K (.ref fI) = some (.type "function")
section
variable {X : Cx} {CX : CXT} {k : Nat} {C fI : Addr} {fd : FuncData} {ps ks : List Str} {sp : Sp} {x : Str} {p pos : Pos} {e : Expr} {es : List Expr} {kws : List Keyword} {t : TA} {g : List Value → List Value → List Value} {gV : List V → List V → List V}
theorem run_mkX {pins : List (Addr × Obj)} {σ : St} {H : Hp} {s : Shared} {Q : VK} {us bs : List Value} {kw : List (Str × Value)} {ys : List V} (M : XInit X.K C fI) (F : FnOk X.prog X.w X.K X.mg X.base CX k fI fd ps sp) (hr : Room (k + 1) X.A)
    (hx : Passes CX X (fun _ _ _ => False)) (I : Inv X pins σ H s) (hus : us.length ≤ sizeLine)
    (hb : ∀ s1 : Shared, X.K.In s1.heap → BindsTo s1 fd ⟨Value.ref (s.heap.objs.size + 1) :: us, kw⟩ (ps.zip bs)) (r : Vals ys bs)
    (h : sp ys (upd H (s.heap.objs.size + 1) (exo (s.heap.objs.size + 1) C none)) (fun v H2 => v = .non ∧ Q (.ref (s.heap.objs.size + 1)) H2) (fun _ _ _ => False)) :
    wpAny (model X.prog X.w) X.A (call (.ref C) us kw) (EP X pins σ Q) X.xe s := by
  obtain ⟨nm, q, N, bs', bm, sn, sub, ab, col, dd, k0, k1, k2, k3, k5, hC, hbm⟩ := M.T.cls
  have KI := I.kIn
  obtain ⟨hp, g, dr, tk, os⟩ := s
  have old : ∀ b o, hp.get? b = some o → ((hp.push (PySem.W.kdv_tup us)).push (PySem.HandSPX.excO C hp.objs.size)).get? b = some o := fun b o z =>
    Heap.get?_push_of_some _ (Heap.get?_push_of_some _ z)
  have hget : ((hp.push (PySem.W.kdv_tup us)).push (PySem.HandSPX.excO C hp.objs.size)).get? (hp.objs.size + 1) = some (PySem.HandSPX.excO C hp.objs.size) := by
    heap_get
  have I2 : Inv X pins σ (upd H (hp.objs.size + 1) (exo (hp.objs.size + 1) C none)) ⟨(hp.push (PySem.W.kdv_tup us)).push (PySem.HandSPX.excO C hp.objs.size), g, dr, tk, os⟩ :=
    I.laid (t' := tk) (a := hp.objs.size + 1) (o := exo (hp.objs.size + 1) C none) old (Nat.le_succ _) (exo_ok hget)
  refine wpAny_call (XcK.callKw PySem.F.excBase_ValueError (fun Y => PySem.HandSPX.refsVE_contains Y bm hbm) (KI _ _ hC) hus (PySem.W.looks_findIn KI M.iC) (fun self => PySem.W.bind_fn KI self M.tI) ?_)
  refine codeAny_mono (F.run _ X.stack _ _ ⟨Value.ref (hp.objs.size + 1) :: us, kw⟩ bs ys _ (fun _ _ _ => False) (hr.make C us kw) (I2.env0.make C us kw) (hb _ I2.kIn) r h) fun rr s' hq => ?_
  cases rr with
  | error er => exact hx pins σ _ _ er s' I2 hq
  | ok fl =>
    cases fl with
    | ret u =>
      obtain ⟨v, H', I3, rv, ev, q3⟩ := I2.after hq
      subst ev
      exact ⟨rv, ⟨V.ref (hp.objs.size + 1), H', I3, rfl, q3⟩⟩
    | next => exact False.elim hq
    | brk => exact False.elim hq
    | cont => exact False.elim hq
theorem pe_mkP (M : XInit X.K C fI) (F : FnOk X.prog X.w X.K X.mg X.base CX k fI fd ps sp) (hr : Room (k + 1) X.A) (hb : Binds X.K fd ps []) (hx : Passes CX X (fun _ _ _ => False)) (hg : Gl X x) (hm : X.mg x = some (.ref C)) (ha : PA X (e :: es) t)
    (hdb : (x == ("__debug__" : Str)) = false := by decide) (he : starEach (e :: es) X.env = (false, eval e X.env) :: starEach es X.env := by rfl) (hpl : (backTo pos (starEach es X.env)).any (·.1) = false := by rfl) :
    PE X (.Call (.Name x p) (e :: es) [] pos) (tMkP C sp t) := by
  refine ⟨fun pins s σ H Q I h => ?_⟩
  refine wpAny_Call_Name_kw (ld_glob I hg hm ?_ hdb)
  refine PySem.W.callWith_K (h₀ := X.base) I.ok.mod.kin M.T.kC (thn (ha.run pos pins s σ H _ I h) fun us s1 ⟨vs, H1, I1, r1, hz, q1⟩ => ⟨I1.kIn, ?_⟩) he hpl
  have hq := q1 (s1.heap.objs.size + 1) (I1.hok.fresh (Nat.le_succ _))
  have r2 : Vals (V.ref (s1.heap.objs.size + 1) :: vs) (Value.ref (s1.heap.objs.size + 1) :: us) := .cons rfl r1
  have hl : (Value.ref (s1.heap.objs.size + 1) :: us).length = ps.length := by
    rw [← r2.length]
    exact F.len _ _ _ _ hq
  have hus : us.length ≤ sizeLine := by
    rw [← Paired.length r1, sizeLine_eq]
    omega
  refine run_mkX (bs := Value.ref (s1.heap.objs.size + 1) :: us) M F hr hx I1 hus (fun s2 K2 => ?_) r2 hq
  have b := hb s2 (Value.ref (s1.heap.objs.size + 1) :: us) K2 (by rw [List.append_nil]; exact hl)
  rw [List.append_nil] at b
  exact b
theorem pe_mkW (M : XInit X.K C fI) (F : FnOk X.prog X.w X.K X.mg X.base CX k fI fd ps sp) (hr : Room (k + 1) X.A) (hb : KBn X.K fd ps 1 ks g gV) (hx : Passes CX X (fun _ _ _ => False)) (hg : Gl X x) (hm : X.mg x = some (.ref C)) (hkw : PK X kws t)
    (hall : (backToKw pos (keywordEach kws X.env)).all (·.1.isSome) = true := by rfl) (hks : (backToKw pos (keywordEach kws X.env)).filterMap (·.1) = ks := by rfl) (hdb : (x == ("__debug__" : Str)) = false := by decide)
    (hpl : ((backTo pos (starEach [] X.env)).any (·.1) || (backToKw pos (keywordEach kws X.env)).any (·.1.isNone)) = false := by rfl) :
    PE X (.Call (.Name x p) [] kws pos) (tMkW C ks.length sp gV t) := by
  refine ⟨fun pins s σ H Q I h => ?_⟩
  refine wpAny_Call_Name_kw (ld_glob I hg hm ?_ hdb)
  refine PySem.W.callWith_KW0 (h₀ := X.base) I.ok.mod.kin M.T.kC hall ?_ hpl
  refine thn (hkw.run pos pins s σ H _ I h) fun ws s1 ⟨zs, H1, I1, rz, l1, q1⟩ => ⟨I1.kIn, ?_⟩
  rw [hks]
  have hq := q1 (s1.heap.objs.size + 1) (I1.hok.fresh (Nat.le_succ _))
  exact run_mkX (us := []) M F hr hx I1 (Nat.zero_le _) (fun s2 K2 => hb.to s2 [Value.ref (s1.heap.objs.size + 1)] ws K2 rfl (rz.length.symm.trans l1)) (hb.rel (vs := [V.ref (s1.heap.objs.size + 1)]) (us := [Value.ref (s1.heap.objs.size + 1)]) (.cons rfl .nil) rz) hq
end
/-! ### the exception's own object -/
/-- where an exception of the class at C with the fields fs stands: tracked, or pinned -/
def ErrAt (X : Cx) (H : Hp) (a C : Addr) (fs : List (Str × V)) : Prop :=
  (∃ d, H a = some (exo a C (some d)) ∧ H d = some (exd d fs)) ∨
  (∃ (oe : Obj) (d : Addr), (a, oe) ∈ X.pn ∧ Zc (.ref C) (some d) oe ∧ (∃ vs, oe.data = .fields vs) ∧ H d = some (.xd fs))
section
variable {X : Cx} {pins : List (Addr × Obj)} {σ : St} {H : Hp} {s : Shared} {a C : Addr} {fs : List (Str × V)} {e : Expr} {te : TE} {pos : Pos} {f : Str}
theorem ErrAt.inst (I : Inv X pins σ H s) (h : ErrAt X H a C fs) : ∃ (ox od : Obj) (d : Addr) (mA : Str → Option Value), PySem.W.InstAt s.heap a ox C (some od) ∧ s.heap.get? d = some od ∧ s.heap.Ns1 d mA ∧ (∀ n, RelO (fs.lookup n) (mA n)) := by
  rcases h with ⟨d, ea, ed⟩ | ⟨oe, d, hp, hz, ⟨vs, hd⟩, ed⟩
  · obtain ⟨t1, ho⟩ := exo_at I.hok ea
    obtain ⟨mA, hns, rel⟩ := exd_at I.hok ed
    obtain ⟨od, es, ep, hod, rest⟩ := id hns
    exact ⟨_, od, d, mA, ⟨ho, rfl, rfl, hod⟩, hod, hns, rel⟩
  · obtain ⟨hget, _⟩ := I.pin (a, oe) (List.mem_append_left _ hp)
    have ob : ObjOk X.prog X.w H s.heap d (.xd fs) := I.hok d _ ed
    obtain ⟨mA, hns, rel⟩ := ob
    obtain ⟨od, es, ep, hod, rest⟩ := id hns
    exact ⟨oe, od, d, mA, ⟨hget, hz.1, by unfold PySem.W.notCls; rw [hd] <;> rfl, by rw [hz.2]; exact hod⟩, hod, hns, rel⟩
/-- e.f, e an exception -/
def tErrF (X : Cx) (f : Str) (te : TE) : TE := fun σ H Q => te σ H fun x H1 => ∃ (a C : Addr) (fs : List (Str × V)) (v : V), x = .ref a ∧ ErrAt X H1 a C fs ∧ XfC X.K C ∧ PySem.W.findIn X.K (.ref C) f = some none ∧ fs.lookup f = some v ∧ Q v H1
theorem pe_errF (he : PE X e te) (hb : attributeBase e f X.env (eval e X.env) = eval e X.env := by rfl) : PE X (.Attribute e f pos) (tErrF X f te) := by
  refine ⟨fun pins s σ H Q I h => ?_⟩
  refine attr_of hb (thn (he.run pins s σ H _ I h) fun u s1 hh => ?_)
  obtain ⟨x, H1, I1, rx, a, C, fs, v, ex, eA, T, hno, l, q⟩ := hh
  subst ex
  obtain rfl : u = Value.ref a := rx
  obtain ⟨ox, od, d, mA, J, hod, hns, rel⟩ := eA.inst I1
  obtain ⟨od2, ho2, hl⟩ := lookIn_ns hns
  have eo : od2 = od := Option.some.inj (ho2.symm.trans hod)
  subst eo
  obtain ⟨u, hu, ru⟩ := RelO.some_of (v := v) (o := mA f) (by rw [← l]; exact rel f)
  exact HandSPX.exc_get I1.kIn J T.ga T.gg T.exC (PySem.W.findObj_own T.hdC hno rfl (by rw [hl, hu])) (handed_of ru) ⟨v, H1, I1.tok _, ru, q⟩
/-- isinstance(e, c), e an exception -/
def rErrIs (X : Cx) : List V → Hp → VK → Prop := fun xs H Q => ∃ (a C : Addr) (fs : List (Str × V)) (c : V) (cv : Value) (b : Bool), xs = [.ref a, c] ∧ ErrAt X H a C fs ∧ ExcC X.K C ∧ (∀ u, RelV c u → u = cv) ∧ PySem.W.kitOne X.K (.ref C) cv = some b ∧ Q (.bl b) H
theorem call_errIs : CallR X (.builtin "isinstance") (rErrIs X) := by
  intro pins s σ H xs us Q I r h
  obtain ⟨a, C, fs, c, cv, b, rfl, eA, T, hcv, e, q⟩ := h
  obtain ⟨u1, u2, rfl, r1, r2⟩ := vals2 r
  obtain rfl : u1 = Value.ref a := r1
  have ec := hcv _ r2
  subst ec
  obtain ⟨ox, od, d, mA, J, hod, hns, rel⟩ := eA.inst I
  have hcl : (PySem.W.clsIn X.K C).isSome = true := by
    obtain ⟨cd, hc, _⟩ := PySem.W.any_some T.hd
    rw [hc]
    rfl
  exact PySem.W.kia_one (PySem.W.kitx_exc hcl T.hg T.hk T.hs T.ha T.hn T.ht T.hm) I.kIn J e (fun z => nomatch z) fun tk => ⟨.bl b, H, I.tok tk, rfl, q⟩
end
end XcV
set_option Elab.async false
set_option linter.all false
set_option maxRecDepth 100000
set_option maxHeartbeats 4000000
namespace XcV
open PySem PySem.Spec PyProof.Rows L2
/-! ### defs that are called within an except suite and are handed the exception: their promise may speak of the pinned object -/
structure FnP (P : Program) (w : World) (K : PySem.W.Frag) (mg : Str → Option Value) (base : Heap) (k : Nat) (f : Addr) (fd : FuncData) (ps : List Str) (sp : Addr → Value → Option Addr → Sp) : Prop where
  len : ∀ a c d vs H Q E, sp a c d vs H Q E → vs.length = ps.length
  run : ∀ (A : Around) (outer : List Env) (s : Shared) (H : Hp) (args : Args) (us : List Value) (vs : List V) (Q : VK) (p : Addr × Obj) (cls : Value) (d : Option Addr), L2H.RoomH k A → L2H.PinOk outer H s p → Zc cls d p.2 → (∃ vs, p.2.data = .fields vs) → Env0 P w K mg base A outer s H →
    BindsTo s fd args (ps.zip us) → Vals vs us → sp p.1 cls d vs H Q (fun _ _ _ => False) → codeAny (model P w) A (.call (.ref f) args) (CR CX0 outer P w H s Q fun _ _ _ => False) s
theorem fn_ofP {P : Program} {w : World} {K : PySem.W.Frag} {mg : Str → Option Value} {base : Heap} {k : Nat} {f : Addr} {fd : FuncData} {x qual : Str} {st : Stmt} {N ps : List Str} {sp : Addr → Value → Option Addr → Sp} (F : Fun K x qual st f fd) (S : FnScope N ps (defScope st))
    (len : ∀ a c d vs H Q E, sp a c d vs H Q E → vs.length = ps.length)
    (hbody : ∀ (cdv : Value) (A : Around) (outer : List Env) (s : Shared) (H : Hp) (vs : List V) (Q : VK) (p : Addr × Obj) (cls : Value) (d : Option Addr), L2H.RoomH k (A.deeper (envOfC qual (defScope st) s.heap.objs.size f cdv)) → Zc cls d p.2 → (∃ vs, p.2.data = .fields vs) → sp p.1 cls d vs H Q (fun _ _ _ => False) →
      ∃ t, PSs (L2H.cxH CX0 P w K mg base N qual (defScope st) f cdv A outer s H (fun _ _ _ => False) p) (defBody st) t ∧ t { nx := fun _ H' => Q .non H', rt := Q } (L2.start N vs) H) :
    FnP P w K mg base (k + 1) f fd ps sp := by
  obtain ⟨oc, od, kV, doc, pm, an, cdv, ct, osl, rfl, lk, hcd⟩ := F.ex
  refine ⟨len, fun A outer s H args us vs Q p cls d hr hpin hz hf e0 hb r hsp => ?_⟩
  have KX : K.In s.heap := e0.mod.kin.keeps fun b o e => (e0.bs b o e).1
  have lim : s.heap.NoLimit := e0.mod.nolimit.keeps fun b o e => (e0.bs b o e).1
  have kinds : ∀ y ∈ ps.zip us, (defScope st).names.lookup y.1 = some .local ∨ ((defScope st).names.lookup y.1 = some .cell ∧ ((cellsFrom (s.heap.objs.size + 1) (defScope st).names []).lookup y.1).isSome = true) := by
    rintro ⟨n, v⟩ hy
    rcases S.par n (List.of_mem_zip hy).1 with q | q
    · exact .inl q
    · exact .inr ⟨q, PySem.W.cellsFrom_some _ _ _ (.inl q)⟩
  refine codeAny_call_function hr.depth (KX _ _ lk) rfl S.co S.gen rfl (PySem.W.codeRec_of KX hcd) (hb _ _ _ _ ?_)
  refine wpAny_newFunctionEnv_cells S.kind kinds fun env he s1 x => ?_
  subst he
  refine ⟨lim.keeps x.toInCall.keep, codeAny_func ?_⟩
  obtain ⟨t, ht, hq⟩ := hbody cdv A outer s H vs Q p cls d (hr.deeper _) hz hf hsp
  have I := L2H.inv_startH (CX := CX0) (P := P) (mg := mg) (E := fun _ _ _ => False) (qual := qual) (f := f) (cd := cdv) S hpin e0 (len _ _ _ _ _ _ _ hsp) r x
  refine wpAny_mono (ht.run [] s1 (L2.start N vs) H _ I hq) (fun fl s' hs => ?_) fun e s' hs => hs
  cases fl with
  | ret u =>
    obtain ⟨v, σ', H', J, rv, q⟩ := hs
    exact ⟨v, H', J.os, J.bare, J.base, J.hok, rv, q⟩
  | next =>
    obtain ⟨σ', H', J, q⟩ := hs
    exact ⟨.non, H', J.os, J.bare, J.base, J.hok, rfl, q⟩
  | brk =>
    obtain ⟨_, _, _, q⟩ := hs
    exact False.elim q
  | cont =>
    obtain ⟨_, _, _, q⟩ := hs
    exact False.elim q
section
variable {X : Cx} {k : Nat} {f : Addr} {fd : FuncData} {ps : List Str} {sp : Addr → Value → Option Addr → Sp} {x : Str} {q pos : Pos} {e : Expr} {es : List Expr} {t : TA}
/-- f(e, ..) in such a suite, p the pinned exception -/
def tCallP (sp : Addr → Value → Option Addr → Sp) (a : Addr) (cls : Value) (d : Option Addr) (t : TA) : TE := fun σ H Q => t σ H fun vs H1 => sp a cls d vs H1 Q (fun _ _ _ => False)
theorem pe_callP {a : Addr} {oe : Obj} {cls : Value} {d : Option Addr} (hp : (a, oe) ∈ X.pn) (hz : Zc cls d oe) (hf : ∃ vs, oe.data = .fields vs) (FF : FnP X.prog X.w X.K X.mg X.base k f fd ps sp) (hr : L2H.RoomH k X.A) (hg : Gl X x) (hm : X.mg x = some (.ref f)) (hk : PySem.W.keepIn X.K (.ref f) = true) (hb : Binds X.K fd ps [])
    (ha : PA X (e :: es) t) (hdb : (x == ("__debug__" : Str)) = false := by decide) (he : starEach (e :: es) X.env = (false, eval e X.env) :: starEach es X.env := by rfl) (hpl : (backTo pos (starEach es X.env)).any (·.1) = false := by rfl) :
    PE X (.Call (.Name x q) (e :: es) [] pos) (tCallP sp a cls d t) := by
  refine ⟨fun pins s σ H Q I h => ?_⟩
  refine wpAny_Call_Name_kw (ld_glob I hg hm ?_ hdb)
  refine PySem.W.callWith_K (h₀ := X.base) I.ok.mod.kin hk (thn (ha.run pos pins s σ H _ I h) fun us s1 ⟨vs, H1, J, r, q1⟩ => ⟨J.kIn, ?_⟩) he hpl
  have hl : us.length = ps.length := by
    rw [← r.length]
    exact FF.len _ _ _ _ _ _ _ q1
  have b := hb s1 us J.kIn (by rw [List.append_nil]; exact hl)
  rw [List.append_nil] at b
  have P1 := J.pin (a, oe) (List.mem_append_left _ hp)
  have hpin : L2H.PinOk X.stack H1 s1 (a, oe) := ⟨P1.1, P1.2.1, fun hm => (List.mem_cons.mp (J.stkSub a hm)).elim P1.2.2.1 P1.2.2.2.1, P1.2.2.2.2⟩
  show wpAny _ _ (call (.ref f) us) _ _ _
  refine wpAny_call (codeAny_mono (FF.run X.A X.stack s1 H1 ⟨us, []⟩ us vs Q (a, oe) cls d hr hpin hz hf J.env0 b r q1) fun r s' hq => ?_)
  cases r with
  | error e => exact False.elim hq
  | ok fl =>
    cases fl with
    | ret u => exact J.after hq
    | next => exact False.elim hq
    | brk => exact False.elim hq
    | cont => exact False.elim hq
end
/-! ### try: body; several clauses, with or without a name -/
/-- what the clauses wish, one after the other: some i, the clause's name in slot i -/
def wMix (K : PySem.W.Frag) (Wout : WX) (D : Ends) : List (Value × Option Nat × (Addr → Value → Option Addr → TS)) → WX
  | [] => Wout
  | (c, o, ts) :: r => fun cls d σ H => ∃ b, PySem.W.exmOne K cls c = some b ∧
      (b = true → ∀ a, H a = none → (match o with
        | none => ts a cls d D σ H
        | some i => ts a cls d { nx := fun σ' H' => D.nx (σ'.set i none) H', rt := D.rt, bk := fun σ' H' => D.bk (σ'.set i none) H', ct := fun σ' H' => D.ct (σ'.set i none) H' } (σ.set i (some (.ref a))) H)) ∧
      (b = false → wMix K Wout D r cls d σ H)
inductive HdsMix (X : Cx) : List ExceptHandler → List (Value × Option Nat × (Addr → Value → Option Addr → TS)) → Prop
  | nil : HdsMix X [] []
  | bare {x : Str} {c : Value} {ts : Addr → Value → Option Addr → TS} {b₀ : Stmt} {suite : List Stmt} {np pos' : Pos} {hds : List ExceptHandler} {l : List (Value × Option Nat × (Addr → Value → Option Addr → TS))} (hc : Names X x c)
      (hsu : ∀ (a : Addr) (oe : Obj) (cls : Value) (d : Option Addr) (pn : List (Addr × Obj)), Zc cls d oe → (∃ vs, oe.data = .fields vs) → PSs (X.suite a ((a, oe) :: pn)) (b₀ :: suite) (ts a cls d)) (r : HdsMix X hds l) :
      HdsMix X (.ExceptHandler (some (.Name x np)) none (b₀ :: suite) pos' :: hds) ((c, none, ts) :: l)
  | as_ {x n : Str} {i : Nat} {c : Value} {ts : Addr → Value → Option Addr → TS} {b₀ : Stmt} {suite : List Stmt} {np pos' : Pos} {hds : List ExceptHandler} {l : List (Value × Option Nat × (Addr → Value → Option Addr → TS))} (hc : Names X x c) (hN : X.N.Nodup) (hi : X.N[i]? = some n) (hln : X.env.kindOf n = some .local)
      (hsu : ∀ (a : Addr) (oe : Obj) (cls : Value) (d : Option Addr) (pn : List (Addr × Obj)), Zc cls d oe → (∃ vs, oe.data = .fields vs) → PSs (X.suite a ((a, oe) :: pn)) (b₀ :: suite) (ts a cls d)) (r : HdsMix X hds l) :
      HdsMix X (.ExceptHandler (some (.Name x np)) (some n) (b₀ :: suite) pos' :: hds) ((c, some i, ts) :: l)
section
variable {X : Cx} {body : List Stmt} {h₀ : ExceptHandler} {hds : List ExceptHandler} {l : List (Value × Option Nat × (Addr → Value → Option Addr → TS))} {pos : Pos} {tb : WX → TS} {Wout : WX}
theorem ps_try_mix (hs : X.stack = X.env :: X.outer) (hf : X.env.frame = some X.env.locals) (tk : Takes X Wout)
    (hb : ∀ (W : WX) (pn : List (Addr × Obj)) (xe : Value → Shared → Prop), Takes (X.tr pn xe) W → PassesOwn (model X.prog X.w) X.A X.env xe → PSs (X.tr pn xe) body (tb W))
    (hh : HdsMix X (h₀ :: hds) l) : PS X (.Try body (h₀ :: hds) [] [] pos) (fun D σ H => tb (wMix X.K Wout D l) D σ H) := by
  refine ⟨fun pins s σ H D I h => ?_⟩
  have ok := I.ok
  have fr : X.A.frames = some (X.env :: X.outer) := by
    rw [ok.frames, hs]
  refine wpAny_Try_except ?_
  refine wpAny_mono ((hb (wMix X.K Wout D l) (X.pn ++ pins) (fun e s₁ => wpAny (model X.prog X.w) X.A (noteFrame e X.env) (fun _ s₂ => wpAny (model X.prog X.w) X.A (setFlight e none) (fun _ s₃ =>
    wpAny (model X.prog X.w) X.A (handleBy e X.env (h₀ :: hds)) (SP X pins D) X.xe s₃) X.xe s₂) X.xe s₁) (fun u s' xx => ?_) PassesOwn.looking).run [] s σ H D (I.toTry _) h) (fun f s1 hsp => ?_) (fun e s1 he => he)
  · obtain ⟨a, B, sI, pins', σ', H', cls, d, rfl, J', nb, up, sky, na, os, ag, w⟩ := xx
    have J : Inv X pins σ' H' sI := J'.ofTry ok
    have sky1 : Sky B (X.env :: X.outer) a (Zc cls d) X.env.locals s'.heap := by
      rw [← hs]
      exact sky
    show wpAny (model X.prog X.w) X.A (noteFrame (.ref a) X.env) _ _ _
    refine Sky.land Zc.steady fr hf sky1 fun h3 fl3 up3 => ?_
    have J3 : Inv X pins σ' H' { s' with heap := h3 } := J.landed nb fl3.1 (up.trans up3) os ag
    obtain ⟨oe3, vs3, he3, hz3, hd3⟩ := fl3.there
    have nfr : a ∉ frs (X.env :: X.outer) := fun hm => by
      obtain ⟨_, o', e', hnf⟩ := fl3.2.2.1.mem hm
      rw [he3] at e'
      cases e'
      exact hnf _ hd3
    have nL : a ≠ X.env.locals := fun z => nfr (List.mem_filterMap.mpr ⟨X.env, List.mem_cons_self, by rw [hf, z]⟩)
    have nF : a ∉ X.fs := fun hm => by
      obtain ⟨e, he, q⟩ := List.mem_filterMap.mp hm
      exact nfr (List.mem_filterMap.mpr ⟨e, List.mem_cons_of_mem _ he, q⟩)
    have S3 := J3.suite he3 hd3 na nL nF
    have LT : PySem.W.Looks (model X.prog X.w) h3 (typeOf (.ref a)) cls := fun A Q E s k q => wpAny_typeOf_ref (k _ _ he3) (by rw [hz3.1]; exact q)
    have test : ∀ {x : Str} {np : Pos} {c : Value} {Q : Value → Shared → Prop} {E : Value → Shared → Prop}, Names X x c → Q c { s' with heap := h3 } →
        wpAny (model X.prog X.w) (X.A.mark (some (.ref a))) (eval (.Name x np) X.env) Q E { s' with heap := h3 } := fun {x np c Q E} hc q => by
      obtain ⟨hg, hdbg, hm | ⟨hm, hv, hnn⟩⟩ := hc
      · exact ld_glob (X := X.suite a ((a, oe3) :: (X.pn ++ pins))) S3 hg hm q hdbg
      · exact ld_blt (X := X.suite a ((a, oe3) :: (X.pn ++ pins))) S3 hg hm hv q hnn hdbg
    have go : ∀ {hds' : List ExceptHandler} {l' : List (Value × Option Nat × (Addr → Value → Option Addr → TS))}, HdsMix X hds' l' → wMix X.K Wout D l' cls d σ' H' →
        wpAny (model X.prog X.w) X.A (handleBy (.ref a) X.env hds') (SP X pins D) X.xe { s' with heap := h3 } := by
      intro hds' l' hk
      induction hk with
      | nil =>
        intro w
        refine wpAny_handleBy_nil ?_
        obtain ⟨k1, k2, k3, oe, vs, T, oT, ts', he, hz, hd, h1, hr⟩ := id fl3
        unfold PySem.passOn
        refine wpAny_bind (wpAny_field he hd h1 ?_)
        rw [if_neg (show ¬ ((Value.ref T == Value.none) = true) from by simp)]
        have fin : wpAny (model X.prog X.w) X.A (setFlight (.ref a) X.env.frame) (fun _ s4 => wpAny (model X.prog X.w) X.A (throw (.ref a) : Sem Flow) (SP X pins D) X.xe s4) X.xe { s' with heap := h3 } := by
          rw [hf]
          refine HandSPX.setFlight_upZ fl3 fun h4 hh4 up4 => wpAny_throw (tk _ _ ?_)
          exact ⟨a, B, sI, pins, σ', H', cls, d, rfl, J, nb, (up.trans up3).trans up4, .inr (.inr (by rw [hs]; exact hh4)), na, os, ag, w⟩
        first
          | exact wpAny_bind (wpAny_pure (wpAny_bind fin))
          | exact wpAny_bind fin
      | @bare x c ts b₀ suite np pos' hds2 l2 hc hsu r ih =>
        intro w
        obtain ⟨b, hb1, hyes, hno⟩ := w
        refine wpAny_handleBy_cons (codeAny_handlers_test ?_) (by intro q; cases q)
        have LM := PySem.W.exm_one (M := model X.prog X.w) (J3.kIn) LT hb1
        refine test hc (LM.here ?_)
        cases b with
        | true =>
          refine codeAny_handlers_suite ?_
          refine HandSPX.lands_againZ fl3 fun h4 fl4 up4 => ?_
          have J4 : Inv X pins σ' H' { s' with heap := h4 } := J.landed nb fl4.1 ((up.trans up3).trans up4) os ag
          obtain ⟨oe4, vs4, he4, hz4, hd4⟩ := fl4.there
          have S4 := J4.suite he4 hd4 na nL nF
          refine wpAny_mono ((hsu a oe4 cls d (X.pn ++ pins) hz4 ⟨_, hd4⟩).run [] _ _ H' _ S4 (hyes rfl a na)) (fun f s6 hsp => ?_) (fun _ _ z => False.elim z)
          cases f with
          | ret u =>
            obtain ⟨v6, σ6, H6, S6, r6, q6⟩ := hsp
            exact ⟨_, _, _, S6.unsuite ok, r6, q6⟩
          | next =>
            obtain ⟨σ6, H6, S6, q6⟩ := hsp
            exact ⟨_, _, S6.unsuite ok, q6⟩
          | brk =>
            obtain ⟨σ6, H6, S6, q6⟩ := hsp
            exact ⟨_, _, S6.unsuite ok, q6⟩
          | cont =>
            obtain ⟨σ6, H6, S6, q6⟩ := hsp
            exact ⟨_, _, S6.unsuite ok, q6⟩
        | false =>
          show wpAny _ X.A (handleBy (.ref a) X.env hds2) _ _ _
          exact ih (hno rfl)
      | @as_ x n i c ts b₀ suite np pos' hds2 l2 hc hN hi hln hsu r ih =>
        intro w
        obtain ⟨b, hb1, hyes, hno⟩ := w
        refine wpAny_handleBy_cons (codeAny_handlers_test ?_) (by intro q; cases q)
        have LM := PySem.W.exm_one (M := model X.prog X.w) (J3.kIn) LT hb1
        refine test hc (LM.here ?_)
        cases b with
        | true =>
          refine codeAny_handlers_suite_as ?_
          refine HandSPX.lands_againZ fl3 fun h4 fl4 up4 => ?_
          have J4 : Inv X pins σ' H' { s' with heap := h4 } := J.landed nb fl4.1 ((up.trans up3).trans up4) os ag
          obtain ⟨oe4, vs4, he4, hz4, hd4⟩ := fl4.there
          have S4 := J4.suite he4 hd4 na nL nF
          refine store_ok (X := X.suite a ((a, oe4) :: (X.pn ++ pins))) (v := .ref a) S4 hN hi (.inl hln) rfl (fun s5 S5 => ?_) (.inr hln)
          refine wpAny_mono ((hsu a oe4 cls d (X.pn ++ pins) hz4 ⟨_, hd4⟩).run [] s5 _ H' _ S5 (hyes rfl a na)) (fun f s6 hsp => ?_) (fun _ _ z => False.elim z)
          have end_ : ∀ {σ6 : St} {H6 : Hp} {Q : Shared → Prop}, Inv (X.suite a ((a, oe4) :: (X.pn ++ pins))) [] σ6 H6 s6 → (∀ s7, Inv X pins (σ6.set i none) H6 s7 → Q s7) →
              wpAny (model X.prog X.w) X.A (do bindName X.env n .none; unbindBehindTheSuite X.env n pos') (fun _ s7 => Q s7) X.xe s6 := fun {σ6 H6 Q} S6 hq => gone_ok (S6.unsuite ok) hN hi hln hq
          cases f with
          | ret u =>
            obtain ⟨v6, σ6, H6, S6, r6, q6⟩ := hsp
            exact end_ S6 fun s7 J7 => ⟨_, _, _, J7, r6, q6⟩
          | next =>
            obtain ⟨σ6, H6, S6, q6⟩ := hsp
            exact end_ S6 fun s7 J7 => ⟨_, _, J7, q6⟩
          | brk =>
            obtain ⟨σ6, H6, S6, q6⟩ := hsp
            exact end_ S6 fun s7 J7 => ⟨_, _, J7, q6⟩
          | cont =>
            obtain ⟨σ6, H6, S6, q6⟩ := hsp
            exact end_ S6 fun s7 J7 => ⟨_, _, J7, q6⟩
        | false =>
          show wpAny _ X.A (handleBy (.ref a) X.env hds2) _ _ _
          exact ih (hno rfl)
    exact go hh w
  · cases f with
    | ret u =>
      obtain ⟨v, σ', H', J', r, q⟩ := hsp
      exact ⟨v, σ', H', J'.ofTry ok, r, q⟩
    | next =>
      obtain ⟨σ', H', J', q⟩ := hsp
      exact wpAny_execs_nil ⟨σ', H', J'.ofTry ok, q⟩
    | brk =>
      obtain ⟨σ', H', J', q⟩ := hsp
      exact ⟨σ', H', J'.ofTry ok, q⟩
    | cont =>
      obtain ⟨σ', H', J', q⟩ := hsp
      exact ⟨σ', H', J'.ofTry ok, q⟩
end
end XcV
set_option Elab.async false
set_option linter.all false
set_option maxRecDepth 100000
set_option maxHeartbeats 4000000
namespace HB
open PySem PySem.Spec PyProof.Rows L2 XcV
/-! ### built-in names -/
theorem bt_len : bootBuiltins "len" = some (.builtin "len") := by decide +kernel
theorem bt_isinstance : bootBuiltins "isinstance" = some (.builtin "isinstance") := by decide +kernel
theorem bt_abs : bootBuiltins "abs" = some (.builtin "abs") := by decide +kernel
theorem bt_all : bootBuiltins "all" = some (.builtin "all") := by decide +kernel
theorem bt_any : bootBuiltins "any" = some (.builtin "any") := by decide +kernel
theorem bt_max : bootBuiltins "max" = some (.builtin "max") := by decide +kernel
theorem bt_min : bootBuiltins "min" = some (.builtin "min") := by decide +kernel
theorem bt_sum : bootBuiltins "sum" = some (.builtin "sum") := by decide +kernel
theorem bt_sorted : bootBuiltins "sorted" = some (.builtin "sorted") := by decide +kernel
theorem bt_int : bootBuiltins "int" = some (.type "int") := by decide +kernel
theorem bt_str : bootBuiltins "str" = some (.type "str") := by decide +kernel
theorem bt_bool : bootBuiltins "bool" = some (.type "bool") := by decide +kernel
theorem bt_list : bootBuiltins "list" = some (.type "list") := by decide +kernel
theorem bt_tuple : bootBuiltins "tuple" = some (.type "tuple") := by decide +kernel
theorem bt_range : bootBuiltins "range" = some (.type "range") := by decide +kernel
theorem bt_set : bootBuiltins "set" = some (.type "set") := by decide +kernel
theorem bt_dict : bootBuiltins "dict" = some (.type "dict") := by decide +kernel
theorem bt_enumerate : bootBuiltins "enumerate" = some (.type "enumerate") := by decide +kernel
theorem bt_reversed : bootBuiltins "reversed" = some (.type "reversed") := by decide +kernel
theorem bt_zip : bootBuiltins "zip" = some (.type "zip") := by decide +kernel
theorem bt_ValueError : bootBuiltins "ValueError" = some (.type "ValueError") := by decide +kernel
/-- a def of the text as the top has left it -/
structure Fd (K : PySem.W.Frag) (mg : Str → Option Value) (x : Str) (st : Stmt) (ps : List Str) where
  f : Addr
  fd : FuncData
  F : Fun K x x st f fd
  g : mg x = some (.ref f)
  b : Binds K fd ps []
theorem Fd.k {K : PySem.W.Frag} {mg : Str → Option Value} {x : Str} {st : Stmt} {ps : List Str} (d : Fd K mg x st ps) : PySem.W.keepIn K (.ref d.f) = true := d.F.kp
section
variable {X : Cx}
/-! ### two more rules: a text times a number; an item of a list, for an item op= e -/
theorem fold_size {α : Type} (a : Array α) : ∀ (k : Nat) (i : Array α), ((List.replicate k a).foldl (· ++ ·) i).size = i.size + k * a.size
  | 0, i => by simp
  | k + 1, i => by
    rw [List.replicate_succ, List.foldl_cons, fold_size a k (i ++ a), Array.size_append, Nat.succ_mul]
    omega
/-- z * n -/
def strMul (z : Str) (n : Int) : Str := if n < 1 then Str.empty else if (n == 1 || z.length == 0) = true then z else ⟨(List.replicate n.toNat z.cps).foldl (· ++ ·) #[]⟩
theorem len_fold (z : Str) (k : Nat) : (⟨(List.replicate k z.cps).foldl (· ++ ·) #[]⟩ : Str).length = k * z.length := by
  show (Array.size _) = _
  rw [fold_size]
  simp [Str.length]
theorem strMul_len {z : Str} {n : Int} (h0 : 0 ≤ n) (h1 : n ≤ 1000) (h2 : z.length ≤ 1000) : (strMul z n).length ≤ 1000000 := by
  unfold strMul
  split
  · show (0 : Nat) ≤ _
    omega
  · split
    · omega
    · rw [len_fold]
      have a : n.toNat ≤ 1000 := by omega
      calc n.toNat * z.length ≤ 1000 * 1000 := Nat.mul_le_mul a h2
        _ ≤ 1000000 := by decide
theorem op_mul_str : OpR X (binaryOp .Mult) (fun x y H Q => ∃ (z : Str) (n : Int), x = .str z ∧ y = .int n ∧ 0 ≤ n ∧ n ≤ 1000 ∧ z.length ≤ 1000 ∧ Q (.str (strMul z n)) H) := by
  intro pins s σ H x y v u Q I rx ry h
  obtain ⟨z, n, rfl, rfl, h0, h1, h2, q⟩ := h
  obtain ⟨t, rfl⟩ := rx
  obtain ⟨t', rfl⟩ := ry
  have a : n.toNat ≤ 1000 := by omega
  have small : z.length * n.toNat ≤ 1000000 := by
    calc z.length * n.toNat ≤ 1000 * 1000 := Nat.mul_le_mul h2 a
      _ ≤ 1000000 := by decide
  have hL := strMul_len h0 h1 h2
  have hn := sizeLine_eq
  refine P.mul_str (by
      have a : ¬ n < -(2 ^ 63 : Int) := by omega
      have b : ¬ n ≥ 2 ^ 63 := by omega
      rw [decide_eq_false a, decide_eq_false b]
      rfl) (fun c _ => ?_) (fun c _ => ?_) ?_
  · have p : (0 : Int) < n := by omega
    have e : ((2 : Int) ^ 63 - 1) / 1000 ≤ (2 ^ 63 - 1) / n := by
      refine Int.le_ediv_of_mul_le p ?_
      have : ((2 : Int) ^ 63 - 1) / 1000 * n ≤ (2 ^ 63 - 1) / 1000 * 1000 := Int.mul_le_mul_of_nonneg_left h1 (by decide)
      omega
    have e2 : (1000 : Int) ≤ (2 ^ 63 - 1) / 1000 := by decide
    omega
  · unfold Builtin.Str.tooLong
    rw [hn]
    exact decide_eq_false (by omega)
  · unfold strMul at q hL
    by_cases c : n < 1
    · rw [if_pos c] at q ⊢
      exact ⟨by decide, ⟨.str Str.empty, H, I.tok _, ⟨_, rfl⟩, q⟩⟩
    · rw [if_neg c] at q hL ⊢
      by_cases d : (n == 1 || z.length == 0) = true
      · rw [if_pos d] at q ⊢
        exact ⟨.str z, H, I, ⟨_, rfl⟩, q⟩
      · rw [if_neg d] at q hL ⊢
        exact ⟨by omega, ⟨.str _, H, I.tok _, ⟨_, rfl⟩, q⟩⟩
theorem pget_list : PGet X (rIxL X.K) := by
  intro pins s σ H o i ov iv Q I ro ri h
  obtain ⟨p, xs, i, z, rfl, rfl, hq, he, q⟩ := h
  cases ro
  obtain ⟨t, rfl⟩ := ri
  obtain ⟨its, r, pl, hz⟩ := I.list hq
  obtain ⟨j, h1, h2, h3, h4, h5⟩ := atI_get he
  obtain ⟨w, ew, rw'⟩ := r.get h2
  have hl := r.length
  have hn := line63
  have fin : EP X pins σ Q w s := ⟨z, H, I, rw', q⟩
  by_cases h0 : 0 ≤ i
  · have hj : i.toNat = j := by
      rw [seqIndex_of h0 h5] at h1
      exact Option.some.inj h1
    exact wpAny_getItem_list pl.isList h0 (by omega) (by rw [hj]; simpa using ew) fin
  · have hj : (i + (its.toArray.size : Int)).toNat = j := by
      rw [seqIndex_neg (by omega) h4] at h1
      have e := Option.some.inj h1
      have e2 : its.toArray.size = its.length := by simp
      omega
    exact wpAny_getItem_list_neg pl.isList (by omega) (by simp; omega) (by omega) (by rw [hj]; simpa using ew) fin
end
end HB
set_option Elab.async false
set_option linter.all false
set_option maxRecDepth 100000
set_option maxHeartbeats 4000000
/-! Tuples told with the very object, which has no dict (then their methods can be called): displays, tuple(xs), slices, +, reversed; count, index; enumerate of a tuple. -/
namespace AB
open PySem PySem.Spec PyProof.Rows L2 Evl
/-- an object without dict and slots -/
def Nk (od : Obj) : Prop := od.dict = none ∧ od.slots = #[]
/-- the tuple at a, told with its object -/
def Zt (H : Hp) (a : Addr) (vs : List V) : Prop := ∃ od : Obj, Nk od ∧ H a = some (.frz od (.tup vs))
theorem Zt.sq {K : PySem.W.Frag} {H : Hp} {a : Addr} {vs : List V} (h : Zt H a vs) : SqT K H a vs := by
  obtain ⟨od, _, e⟩ := h
  exact .inl (.inr ⟨od, e⟩)
theorem Zt.mono {H H' : Hp} (e : Ex H H') {a : Addr} {vs : List V} (h : Zt H a vs) : Zt H' a vs := by
  obtain ⟨od, h1, h2⟩ := h
  exact ⟨od, h1, e _ _ h2⟩
/-- a new one is laid -/
def NewZ (H : Hp) (vs : List V) (Q : VK) : Prop := ∀ (p : Addr) (od : Obj), Nk od → H p = none → Q (.ref p) (upd H p (.frz od (.tup vs)))
def tTupZ (t : TA) : TE := fun σ H Q => t σ H fun xs H1 => xs.length ≤ sizeLine ∧ NewZ H1 xs Q
section
variable {X : Cx} {es : List Expr} {t : TA} {pos : Pos}
theorem laidZ {pins : List (Addr × Obj)} {σ : L2.St} {H : Hp} {s : Shared} {xs : List V} {its : List Value} (I : Inv X pins σ H s) (r : Vals xs its) (z : xs.length ≤ sizeLine) {tk : Nat} :
    Inv X pins σ (upd H s.heap.objs.size (.frz { cls := .type "tuple", data := .seq its.toArray } (.tup xs))) { s with heap := s.heap.push { cls := .type "tuple", data := .seq its.toArray }, toks := tk } :=
  I.laid (o := .frz { cls := .type "tuple", data := .seq its.toArray } (.tup xs)) (fun b u e => Heap.get?_push_of_some _ e) (Nat.le_refl _) ⟨Heap.get?_push_size _ rfl, z, its, r, ⟨_, Heap.get?_push_size _ rfl, rfl, _, rfl⟩⟩
theorem pe_tupZ {x1} (h : PA X es t) : PE X (.Tuple es x1 pos) (tTupZ t) := by
  refine ⟨fun pins s σ H Q I hq => ?_⟩
  refine wpAny_Tuple_spliced (thn (h.run pos pins s σ H _ I hq) fun us s1 ⟨xs, H1, I1, r, z, q⟩ => ⟨by rw [← r.length]; exact z, ?_⟩)
  exact ⟨.ref s1.heap.objs.size, _, laidZ I1 r z, rfl, q _ _ ⟨rfl, rfl⟩ (I1.hok.fresh (Nat.le_refl _))⟩
theorem call_tupleZ : CallR X (.type "tuple") (fun xs H Q => ∃ p ys, xs = [.ref p] ∧ ((SqL X.K H p ys ∧ NewZ H ys Q) ∨ (SqT X.K H p ys ∧ Q (.ref p) H))) := by
  intro pins s σ H xs us Q I r h
  obtain ⟨p, ys, rfl, h⟩ := h
  obtain ⟨u, rfl, rx⟩ := vals1 r
  cases rx
  rcases h with ⟨hq, q⟩ | ⟨hq, q⟩
  · obtain ⟨its, r', pl, hz⟩ := I.list hq
    have hlen := r'.length
    refine call_tuple_list pl.isList (fun h' kp => ?_) (by simp only [List.size_toArray] <;> omega)
    have I1 : Inv X pins σ H { s with heap := h' } := I.kept (t' := s.toks) kp
    exact ⟨.ref h'.objs.size, _, laidZ (tk := s.toks) I1 r' hz, rfl, q _ _ ⟨rfl, rfl⟩ (I1.hok.fresh (Nat.le_refl _))⟩
  · obtain ⟨its, r', pl, hz⟩ := I.tuple hq
    exact call_tuple_same pl ⟨.ref p, H, I, rfl, q⟩
def rCatZ (K : PySem.W.Frag) : R2 := fun x y H Q => ∃ a b xs ys, x = .ref a ∧ y = .ref b ∧ SqT K H a xs ∧ SqT K H b ys ∧ xs.length + ys.length ≤ sizeLine ∧
  (xs = [] → Q (.ref b) H) ∧ (xs ≠ [] → ys = [] → Q (.ref a) H) ∧ (xs ≠ [] → ys ≠ [] → NewZ H (xs ++ ys) Q)
theorem op_catZ : OpR X (binaryOp .Add) (rCatZ X.K) := by
  intro pins s σ H x y v u Q I rx ry h
  obtain ⟨a, b, xs, ys, rfl, rfl, ha, hb, hz, q0, q1, q2⟩ := h
  cases rx
  cases ry
  obtain ⟨its, r1, p1, _⟩ := I.tuple ha
  obtain ⟨its2, r2, p2, _⟩ := I.tuple hb
  by_cases hx : xs = []
  · subst hx
    cases r1
    exact cat_tup0 p1 p2 ⟨.ref b, H, I, rfl, q0 rfl⟩
  · refine HT.cat_tup p1 p2 (fun z => hx (r1.nil_iff.mp z)) (fun z => ⟨.ref a, H, I, rfl, q1 hx (r2.nil_iff.mp z)⟩) (fun z => ?_) (by rw [← r1.length, ← r2.length]; exact hz)
    exact ⟨.ref s.heap.objs.size, _, laidZ (tk := s.toks) I (r1.append r2) (by rw [List.length_append]; exact hz), rfl, q2 hx (fun w => z (r2.nil_iff.mpr w)) _ _ ⟨rfl, rfl⟩ (I.hok.fresh (Nat.le_refl _))⟩
def rSlZ (K : PySem.W.Frag) : V → Option Int → Option Int → Hp → VK → Prop := fun x lo hi H Q => ∃ a xs, x = .ref a ∧ SqT K H a xs ∧
  (HT.sIx xs.length 0 lo = 0 ∧ HT.sIx xs.length xs.length hi = xs.length → Q (.ref a) H) ∧ (¬ (HT.sIx xs.length 0 lo = 0 ∧ HT.sIx xs.length xs.length hi = xs.length) → NewZ H (cutV xs lo hi) Q)
theorem sl_tupZ : SlR X (rSlZ X.K) := by
  intro pins s σ H x v vl vu lo hi sl Q I rx hs pl pu h
  obtain ⟨a, xs, rfl, hx, q1, q2⟩ := h
  cases rx
  obtain ⟨its, r, ht, hz⟩ := I.tuple hx
  have hlen : its.toArray.size = xs.length := by rw [List.size_toArray]; exact r.length.symm
  refine ⟨"tuple", _, PyProof.Rows.slot_tuple_getitem.lookup, ht.typeIs, ?_⟩
  by_cases hw : HT.sIx xs.length 0 lo = 0 ∧ HT.sIx xs.length xs.length hi = xs.length
  · exact getItem_tuple_whole ht hs pl pu (by rw [hlen]; exact hw) ⟨.ref a, H, I, rfl, q1 hw⟩
  · refine HT.getItem_tuple_cut ht hs pl pu (by rw [hlen]; exact hw) ?_ (by rw [hlen]; exact hz)
    rw [hlen]
    exact ⟨.ref s.heap.objs.size, _, laidZ (tk := s.toks) I ((r.drop (HT.sIx xs.length 0 lo)).take (HT.sIx xs.length xs.length hi - HT.sIx xs.length 0 lo)) (Nat.le_trans (cutV_length xs lo hi) hz), rfl, q2 hw _ _ ⟨rfl, rfl⟩ (I.hok.fresh (Nat.le_refl _))⟩
/-! t[::-1] -/
theorem rev_applied {prog : Program} {w : World} {A : Around} {E : Value → Shared → Prop} {s : Shared} {sl : Addr} {vs : Value} {n : Nat} {Q : Int × Int × Nat → Shared → Prop} (hs : s.heap.IsSliceOf sl .none .none vs) (ps : IsPart vs (some (-1)))
    (h : Q ((n : Int) - 1, -1, n) s) : wpAny (model prog w) A (Builtin.Slice.sliceApplied (.ref sl) (pure (n : Int))) Q E s := by
  obtain ⟨os, hos, hcs, hds⟩ := id hs
  unfold Builtin.Slice.sliceApplied Builtin.Slice.sliceFields
  refine wpAny_bind (wpAny_bind (wpAny_field hos hds (x := .none) rfl (wpAny_bind (wpAny_field hos hds (x := .none) rfl (wpAny_bind (wpAny_field hos hds (x := vs) rfl (wpAny_pure ?_)))))))
  refine wpAny_bind (HT.slicePart_ ps ?_)
  show wpAny _ _ (if ((-1 : Int) == 0) = true then _ else _) _ _ s
  rw [if_neg (by decide)]
  refine wpAny_bind (HT.slicePart_ IsPart.none (wpAny_bind (HT.slicePart_ IsPart.none (wpAny_bind (wpAny_pure ?_)))))
  show wpAny _ _ (match Builtin.Slice.sliceAdjust none none (-1) (n : Int) with | (lo, hi) => pure (lo, (-1 : Int), Builtin.Slice.slicePlaces lo hi (-1))) _ _ s
  have e1 : Builtin.Slice.sliceAdjust none none (-1) (n : Int) = ((n : Int) - 1, -1) := rfl
  rw [e1]
  have e2 : Builtin.Slice.slicePlaces ((n : Int) - 1) (-1) (-1) = n := by
    unfold Builtin.Slice.slicePlaces
    rw [if_neg (by decide)]
    split
    · show (((n : Int) - 1 - (-1) - 1) / 1 + 1).toNat = n
      omega
    · show (0 : Int).toNat = n
      omega
  show wpAny _ _ (pure ((n : Int) - 1, (-1 : Int), Builtin.Slice.slicePlaces ((n : Int) - 1) (-1) (-1))) _ _ s
  rw [e2]
  exact wpAny_pure h
theorem pick_all {α β : Type} {f : α → Option β} {g : α → β} : ∀ {l : List α}, (∀ k ∈ l, f k = some (g k)) → l.filterMap f = l.map g
  | [], _ => rfl
  | x :: l, h => by
    rw [List.filterMap_cons, h x List.mem_cons_self, List.map_cons]
    exact congrArg _ (pick_all fun k hk => h k (List.mem_cons_of_mem _ hk))
theorem rev_pick (xs : Array Value) : ((List.range xs.size).filterMap fun (k : Nat) => xs[(((xs.size : Nat) : Int) - 1 + (k : Int) * (-1)).toNat]?).toArray = xs.toList.reverse.toArray := by
  congr 1
  have h1 : ∀ k ∈ List.range xs.size, xs[(((xs.size : Nat) : Int) - 1 + (k : Int) * (-1)).toNat]? = some (xs.toList.reverse[k]?.getD .none) := fun k hk => by
    have hk := List.mem_range.mp hk
    have e : (((xs.size : Nat) : Int) - 1 + (k : Int) * (-1)).toNat = xs.size - 1 - k := by omega
    rw [e, List.getElem?_reverse (by rw [Array.length_toList]; exact hk), Array.length_toList, Array.getElem?_toList, Array.getElem?_eq_getElem (by omega)]
    rfl
  have h2 : (List.range xs.size).filterMap (fun (k : Nat) => xs[(((xs.size : Nat) : Int) - 1 + (k : Int) * (-1)).toNat]?) = (List.range xs.size).map fun k => xs.toList.reverse[k]?.getD .none := pick_all h1
  rw [h2]
  apply List.ext_getElem?
  intro i
  rw [List.getElem?_map]
  rcases Nat.lt_or_ge i xs.size with c | c
  · rw [List.getElem?_range c]
    show some (xs.toList.reverse[i]?.getD .none) = _
    rw [List.getElem?_eq_getElem (by rw [List.length_reverse, Array.length_toList]; exact c)]
    rfl
  · rw [List.getElem?_eq_none (by rw [List.length_range]; exact c), List.getElem?_eq_none (by rw [List.length_reverse, Array.length_toList]; exact c)]
    rfl
theorem getItem_tuple_rev {prog : Program} {w : World} {A : Around} {E : Value → Shared → Prop} {s : Shared} {t sl : Addr} {items : Array Value} {vs : Value} {Q : Value → Shared → Prop} (ht : IsTup s.heap t items) (hs : s.heap.IsSliceOf sl .none .none vs) (ps : IsPart vs (some (-1)))
    (h : Q (.ref s.heap.objs.size) { s with heap := s.heap.push { cls := .type "tuple", data := .seq items.toList.reverse.toArray } }) (hsz : items.size ≤ sizeLine) : wpAny (model prog w) A (getItem (.ref t) (.ref sl)) Q E s := by
  have htake : sizeOk (.seq items.toList.reverse.toArray) := by
    show items.toList.reverse.toArray.size ≤ sizeLine
    rw [List.size_toArray, List.length_reverse, Array.length_toList]
    exact hsz
  obtain ⟨os, hos, hcs, hds⟩ := id hs
  have hTs : s.TypeIs (.ref sl) "slice" := ⟨os, hos, hcs⟩
  unfold getItem
  try with_reducible refine wpAny_holding ?_
  first | refine wpAny_bind (wpAny_pure ?_) | skip
  refine wpAny_bind (wpAny_sequenceKey ht.typeIs (by decide) ?_)
  refine wpAny_bind (wpAny_callSpecial?_slot (name := Str.ofString "__getitem__") ht.typeIs PyProof.Rows.slot_tuple_getitem
    (wpAny_call_entry PyProof.Rows.slot_tuple_getitem ht.typeIs entry_tuple_getitem ?_ (args_tuple_getitem _ _)))
  show wpAny _ _ (Builtin.Tuple.tupleItemsOf (.ref t) >>= _) _ _ s
  refine wpAny_bind (PyProof.Rows.tupleItemsOf_ ht ?_)
  refine wpAny_bind (wpAny_typeOf hTs ?_)
  rw [if_pos (by decide)]
  refine wpAny_bind (rev_applied hs ps ?_)
  have hno : ¬ (((((items.size : Nat) : Int) - 1) == 0 && (-1 : Int) == 1 && items.size == items.size) = true) := by
    intro q
    rw [Bool.and_eq_true, Bool.and_eq_true] at q
    exact absurd q.1.2 (by decide)
  show wpAny _ _ (if ((((items.size : Nat) : Int) - 1) == 0 && (-1 : Int) == 1 && items.size == items.size) = true then _ else _) _ _ s
  rw [if_neg hno, rev_pick]
  first
    | exact wpAny_bind (m := Builtin.Tuple.tupleExact _) (wpAny_newObj_type (wpAny_pure ⟨_, rfl, wpAny_pure h⟩) htake)
    | exact wpAny_bind (m := Builtin.Tuple.tupleExact _) (wpAny_newObj_type (wpAny_bind (wpAny_pure (wpAny_pure ⟨_, rfl, wpAny_pure h⟩))) htake)
def tRevZ (K : PySem.W.Frag) (te : TE) : TE := fun σ H Q => te σ H fun x H1 => ∃ a xs, x = .ref a ∧ SqT K H1 a xs ∧ NewZ H1 xs.reverse Q
theorem pe_revZ {e : Expr} {te : TE} {k : Nat} {p1 p2 p3 pos : Pos} (he : PE X e te) : PE X (.Subscript e (.Slice none none (some (.UnaryOp .USub (.Constant (.int 1) k p1) p2)) p3) pos) (tRevZ X.K te) := by
  refine ⟨fun pins s σ H Q I h => ?_⟩
  refine Subscript_ (thn (he.run pins s σ H _ I h) fun v s1 ⟨x, H1, I1, r1, q1⟩ => ?_)
  obtain ⟨a, xs, ex, hx, q⟩ := q1
  subst ex
  cases r1
  have hst : PO X (some (.UnaryOp .USub (.Constant (.int 1) k p1) p2)) (tPart (tUn (rU fun i => .int (-i)) (tC (.int 1)))) := po_some (pe_un un_neg pe_int)
  refine wpAny_Slice (thn (po_none.run pins s1 σ H1 (fun o H2 => o = none ∧ H2 = H1) I1 ⟨rfl, rfl⟩) fun vl s2 ⟨l, H2, I2, pl, el, e2⟩ => ?_)
  subst el e2
  refine thn (po_none.run pins s2 σ H2 (fun o H3 => o = none ∧ H3 = H2) I2 ⟨rfl, rfl⟩) fun vu s3 ⟨u, H3, I3, pu, eu, e3⟩ => ?_
  subst eu e3
  refine thn (hst.run pins s3 σ H3 (fun o H4 => o = some (-1) ∧ H4 = H3) I3 ⟨1, rfl, -1, rfl, rfl, rfl⟩) fun vs s4 ⟨o, H4, I4, ps, eo, e4⟩ => ?_
  subst eo e4
  cases pl
  cases pu
  have I5 : Inv X pins σ H4 { s4 with heap := s4.heap.push { cls := .type "slice", data := .fields #[.none, .none, vs] } } := I4.kept (t' := s4.toks) fun b ob q => Heap.get?_push_of_some _ q
  obtain ⟨its, r, ht, hz⟩ := I5.tuple hx
  have hlen := r.length
  show wpAny (model X.prog X.w) X.A (subscriptTail e (.Slice none none (some (.UnaryOp .USub (.Constant (.int 1) k p1) p2)) p3) (.ref a) (.ref s4.heap.objs.size)) (EP X pins σ Q) X.xe { s4 with heap := s4.heap.push { cls := .type "slice", data := .fields #[.none, .none, vs] } }
  refine tail_any (ops := [.ref a, .ref s4.heap.objs.size]) ht.typeIs (PyProof.Rows.slot_tuple_getitem.lookup) ?_ (by with_unfolding_all rfl)
  refine getItem_tuple_rev ht (Heap.IsSliceOf.new _ .none .none vs) ps ?_ (by rw [List.size_toArray]; omega)
  exact ⟨.ref _, _, laidZ (tk := s4.toks) I5 r.reverse (by rw [List.length_reverse]; exact hz), rfl, q _ _ ⟨rfl, rfl⟩ (I5.hok.fresh (Nat.le_refl _))⟩
end
/-! methods of such tuples -/
def tBMZ (r : V → List V → Hp → VK → Prop) (to : TE) (t : TA) : TE := fun σ H Q => to σ H fun x H1 => (∃ a vs, x = .ref a ∧ Zt H1 a vs) ∧ t σ H1 fun xs H2 => r x xs H2 Q
section
variable {X : Cx} {o e : Expr} {es : List Expr} {to : TE} {t : TA} {name : Str} {apos cpos : Pos} {id : String} {r : V → List V → Hp → VK → Prop}
theorem pe_bmZ (slot : Slot "tuple" name id) (hty : typeOf (.builtin id) = pure (.type "method_descriptor")) (hm : MtR X id r) (ho : PE X o to) (ha : PA X (e :: es) t)
    (hbase : attributeBase o name X.env (eval o X.env) = eval o X.env := by rfl)
    (hfew : ((backTo cpos (starEach (e :: es) X.env)).all (fun x => !x.1) && (backToKw cpos (keywordEach [] X.env)).all (fun x => x.1.isSome)
      && decide ((e :: es).length + ([] : List Keyword).length + (if ([] : List Keyword).isEmpty then 0 else 1) < 30)) = true := by rfl)
    (hline : (apos.endLine == cpos.line) = true := by rfl) (hs : starEach (e :: es) X.env = (false, eval e X.env) :: starEach es X.env := by rfl) (hplain : (backTo cpos (starEach es X.env)).any (·.1) = false := by rfl) :
    PE X (.Call (.Attribute o name apos) (e :: es) [] cpos) (tBMZ r to t) := by
  refine ⟨fun pins s σ H Q I h => ?_⟩
  refine wpAny_Call_method_late hbase hfew hline rfl (thn (ho.run pins s σ H _ I h) fun v s1 ⟨x, H1, I1, r1, ty, q1⟩ => ?_)
  obtain ⟨a, vs, rfl, z⟩ := ty
  obtain rfl : v = Value.ref a := r1
  obtain ⟨its, _, ht, _⟩ := I1.tuple (Zt.sq z)
  obtain ⟨od, hd, hz⟩ := z
  refine ⟨"tuple", id, PySem.F.plainAttrs_tuple, slot, hty, ht.typeIs, fun b eb => ?_, ?_⟩
  · cases eb
    exact ⟨od, (I1.hok a _ hz).1, hd.1⟩
  have hA := ha.run cpos pins s1 σ H1 _ I1 q1
  rw [hs] at hA ⊢
  refine Calls.callWith_builtin (by show (false || (backTo cpos (starEach es X.env)).any (·.1)) = false; rw [hplain] <;> rfl) (Calls.evalArgs_plain ?_)
  exact thn hA fun us s2 ⟨vs, H2, I2, r2, q2⟩ => hm pins s2 σ H2 (.ref a) vs (.ref a) us Q I2 rfl r2 q2
theorem count_flat {y : V} (fy : flatV y = true) : ∀ {ys : List V} {its : List Value}, Vals ys its → ys.all flatV = true → its.countP (eqU y) = ys.countP fun z => eqV z y
  | _, _, .nil, _ => rfl
  | z :: ys, u :: its, .cons r t, f => by
    rw [List.all_cons, Bool.and_eq_true] at f
    rw [List.countP_cons, List.countP_cons, count_flat fy t f.2, eqU_of r f.1]
def rTCount (K : PySem.W.Frag) : V → List V → Hp → VK → Prop := fun x xs H Q => ∃ (a : Addr) (ys : List V) (y : V), x = V.ref a ∧ xs = [y] ∧ SqT K H a ys ∧ flatV y = true ∧ ys.all flatV = true ∧ Q (.int ((ys.countP fun z => eqV z y : Nat) : Int)) H
theorem mt_tcount : MtR X "tuple.count" (rTCount X.K) := by
  intro pins s σ H x xs v us Q I rx rxs h
  obtain ⟨a, ys, y, rfl, rfl, hs, fy, fys, q⟩ := h
  cases rx
  cases rxs with
  | cons ry rt =>
    rename_i uy ut
    cases rt
    obtain ⟨its, rv, ⟨⟨cls, dd, data, sl⟩, ho, hc, n, hd⟩, hlen⟩ := I.tuple hs
    simp only at hc hd
    subst hc hd
    refine call_meets PySem.F.slot_tuple_count ⟨_, ho, rfl⟩ PySem.F.entry_tuple_count (PySem.F.args_tuple_count_2 _ _)
      (SeqAt.tuple_countAt a its.toArray n dd sl uy (eqU y)) ⟨ho, fun u' hu' => mem_eqAt ry fy rv fys u' (by simpa using hu'), ?_⟩
    rw [show its.toArray.toList = its from rfl, count_flat fy rv fys]
    exact ⟨.int ((ys.countP fun z => eqV z y : Nat) : Int), H, I.tok _, ⟨_, rfl⟩, q⟩
def rTIndex (K : PySem.W.Frag) : V → List V → Hp → VK → Prop := fun x xs H Q => ∃ (a : Addr) (ys : List V) (y : V) (j : Nat) (z : V), x = V.ref a ∧ xs = [y] ∧ SqT K H a ys ∧ flatV y = true ∧ ys.all flatV = true ∧ ys[j]? = some z ∧ eqV z y = true ∧
  (∀ (m : Nat) (z' : V), m < j → ys[m]? = some z' → eqV z' y = false) ∧ Q (.int (j : Nat)) H
end
/-! ### enumerate(tuple) -/
def Itet (K : PySem.W.Frag) (a : Addr) : It :=
  ⟨fun i H => ∃ (xs : List V) (x : V), SqT K H a xs ∧ xs[i]? = some x, fun i H v H' => ∃ T x, v = .ref T ∧ H T = none ∧ H' = upd H T (.tup [.int (i : Nat), x]) ∧ ∀ xs, SqT K H a xs → xs[i]? = some x, fun i H => ∃ xs : List V, SqT K H a xs ∧ xs.length ≤ i⟩
theorem meets_enumerate_newT (l : Addr) (items : Array Value) (n : Nat) (dct : Option Addr) (sl : Array (Option Value)) :
    Meets (Builtin.«enumerate.__new__» ⟨[.type "enumerate", .ref l], []⟩) (fun _ R s => s.heap.get? l = some { cls := .type "tuple", dict := dct, data := .seq items n, slots := sl } ∧
      R (.ok (.ret (.ref (s.heap.push { cls := .type "tuple_iterator", data := .fields #[.ref l, .int 0 0] }).objs.size)))
        { s with heap := (s.heap.push { cls := .type "tuple_iterator", data := .fields #[.ref l, .int 0 0] }).push { cls := .type "enumerate", data := .fields #[.none, .bool false, .ref s.heap.objs.size, rawInt 0, .none, .none] } }) :=
  .of_wp fun prog w A R s h => by
    obtain ⟨hp, g, d, tk, os⟩ := s; obtain ⟨hl, h⟩ := h
    have hsub := sub_enumerate
    have hL : Heap.IsTuple (Shared.heap ⟨hp, g, d, tk, os⟩) l items := ⟨_, hl, rfl, n, rfl⟩
    wp_walk using AutoSeq1.wpAny_loadPart' hl
    refine wpAny_stack_any fun st => wpAny_pure ?_
    split
    · rename_i c _ _ _ _ _
      cases (c == Value.type "enumerate")
      · wp_walk using AutoSeq1.wpAny_loadPart' hl, wpAny_pyIter_tuple hL
        exact ⟨_, rfl, h⟩
      · wp_walk using AutoSeq1.wpAny_loadPart' hl, wpAny_pyIter_tuple hL
        exact ⟨_, rfl, h⟩
    · wp_walk using AutoSeq1.wpAny_loadPart' hl, wpAny_pyIter_tuple hL
      exact ⟨_, rfl, h⟩
theorem call_enumerate_tuple {prog : Program} {w : World} {A : Around} {E : Value → Shared → Prop} {s : Shared} {l : Addr} {items : Array Value} {Q : Value → Shared → Prop} (hL : s.heap.IsTuple l items)
    (h : ∀ h', IsEnum h' (s.heap.objs.size + 1) s.heap.objs.size 0 .none → h'.IsTupleIter s.heap.objs.size l 0 → h'.objs.size = s.heap.objs.size + 2 →
      (∀ b o, s.heap.get? b = some o → h'.get? b = some o) → Q (.ref (s.heap.objs.size + 1)) { s with heap := h' }) :
    wpAny (model prog w) A (call (.type "enumerate") [.ref l]) Q E s := by
  obtain ⟨⟨c, dct, dt, sl⟩, hl, hc, n, hd⟩ := hL
  replace hc : c = .type "tuple" := hc
  replace hd : dt = .seq items n := hd
  subst hc hd
  refine callType_new F.called_enumerate (by decide) (F.typeCall_enumerate_1 _) (F.newCall_enumerate_1 _) (fun obj => F.args_object_init_2 obj _) F.entry_enumerate_new
    (meets_enumerate_newT l items n dct sl) ⟨hl, ?_⟩
  have hz : (s.heap.push { cls := .type "tuple_iterator", data := .fields #[.ref l, .int 0 0] }).objs.size = s.heap.objs.size + 1 := Heap.size_push ..
  show _ ∧ _
  rw [hz]
  have he : IsEnum ((s.heap.push { cls := .type "tuple_iterator", data := .fields #[.ref l, .int 0 0] }).push
      { cls := .type "enumerate", data := .fields #[.none, .bool false, .ref s.heap.objs.size, rawInt 0, .none, .none] }) (s.heap.objs.size + 1) s.heap.objs.size 0 .none := by
    have := Heap.get?_push_size (s.heap.push { cls := .type "tuple_iterator", data := .fields #[.ref l, .int 0 0] })
      (o := { cls := .type "enumerate", data := .fields #[.none, .bool false, .ref s.heap.objs.size, rawInt 0, .none, .none] }) rfl
    rw [hz] at this; exact this
  refine ⟨⟨_, he, rfl⟩, h _ he ⟨_, Heap.get?_push_of_some _ (Heap.get?_push_size _ rfl), rfl, rfl⟩ (by rw [Heap.size_push, hz]) fun b o x => Heap.get?_push_of_some _ (Heap.get?_push_of_some _ x)⟩
theorem next_enum_endT {prog : Program} {w : World} {A : Around} {E : Value → Shared → Prop} {s : Shared} {e it l : Addr} {i : Nat} {items : Array Value} {old : Value} {Q : Option Value → Shared → Prop} (hh : A.handled = none)
    (he : IsEnum s.heap e it i old) (hit : s.heap.IsTupleIter it l i) (hl : s.heap.IsTuple l items) (hx : items[i]? = none)
    (hQ : ∀ h', Heap.ExtBut it s.heap h' → Q none { s with heap := h' }) : wpAny (model prog w) A (pyNext (.ref e)) Q E s := by
  have hT : s.TypeIs (.ref e) "enumerate" := ⟨_, he, rfl⟩
  unfold pyNext
  refine wpAny_bind (wpAny_attempt (wpAny_callSpecial?_slot (name := Str.ofString "__next__") hT F.slot_enumerate_next
    (wpAny_call_entry F.slot_enumerate_next hT F.entry_enumerate_next ?_ (F.args_enumerate_next_1 _))))
  show wpAny _ _ (field (.ref e) 2 >>= _) _ _ _
  refine wpAny_bind (wpAny_field he rfl (x := .ref it) rfl ?_)
  refine wpAny_bind (wpAny_nextOf_tuple_end hh hit hl hx fun h' x he' hx' => ?_)
  obtain ⟨o, ho, hc⟩ := hx'
  refine wpAny_bind (wpAny_isInstance (T := "StopIteration") (b := true) ⟨o, ho, hc⟩ isSubtype_stop ?_)
  exact wpAny_pure (hQ _ he')
theorem turn_enumT {P : Program} {w : World} {K : PySem.W.Frag} {elts : List Expr} {kk : Nat} {tpos : Pos} (a e it : Addr) (hae : a ≠ e) (hai : a ≠ it) :
    Turn P w K (.Tuple elts kk tpos) (Itet K a) [e, it] e (fun i h => (∃ old, IsEnum h e it ((i : Nat) : Int) old) ∧ h.IsTupleIter it a i ∧ e ≠ it) where
  mem := by simp
  obj := fun i h st b hb => by
    obtain ⟨⟨old, he⟩, ⟨o, ho, hc, hd⟩, _⟩ := st
    have e' : b = e ∨ b = it := by simpa using hb
    rcases e' with z | z
    · rw [z]; exact ⟨_, he, fun v q => nomatch q⟩
    · rw [z]; exact ⟨o, ho, fun v q => by rw [hd] at q; cases q⟩
  keep := fun i h h' st k => let ⟨⟨old, he⟩, hi, hne⟩ := st; ⟨⟨old, k e (by simp) _ he⟩, hi.at fun o q => k it (by simp) o q, hne⟩
  item := by
    intro X hP hw hK hc i pins s σ H E I hf st hg
    subst hP hw hK
    obtain ⟨⟨old, he⟩, hit, hne⟩ := st
    obtain ⟨xs, x, hq, hx⟩ := hg
    obtain ⟨its, rv, p, hz⟩ := I.tuple hq
    obtain ⟨u, hu, ru⟩ := rv.get hx
    have hel : e < s.heap.objs.size := Heap.lt_size he
    have hil : it < s.heap.objs.size := by obtain ⟨_, q, _⟩ := hit; exact Heap.lt_size q
    have hT : s.heap.IsTuple a its.toArray := p
    refine wpAny_pyNext_enum_itemD (Draws.tuple (A := X.A.in1) (I.ok.hd hc) it a hai its.toArray) he ⟨hit, hT⟩ (by simpa using (List.getElem?_eq_some_iff.mp hu).1) hne (by simp [hne, Ne.symm hae]) fun x' h' tk hP' ho hit' hT' hsz hk => ?_
    have ex : x' = u := by
      have hP' : its.toArray[i]? = some x' := hP'
      rw [show its.toArray[i]? = its[i]? by simp, hu] at hP'
      exact (Option.some.inj hP').symm
    subst ex
    refine ⟨_, rfl, wpAny_letOwnedTupleGo_enum (s := { s with heap := h', toks := tk + 1 }) ho fun h'' he' sb => ?_⟩
    have hT2 : h''.get? s.heap.objs.size = some { cls := .type "tuple", data := .seq #[.int i tk, x'] } := (sb.2 _ (Nat.ne_of_gt hel)).trans hT'
    have new : ObjOk X.prog X.w (upd H s.heap.objs.size (.tup [.int (i : Nat), x])) h'' s.heap.objs.size (.tup [.int (i : Nat), x]) :=
      ⟨by show 2 ≤ sizeLine; decide, [.int i tk, x'], .cons ⟨_, rfl⟩ (.cons ru .nil), ⟨_, hT2, rfl, _, rfl⟩⟩
    have I1 : Inv X pins σ (upd H s.heap.objs.size (.tup [.int (i : Nat), x])) { s with heap := h'', toks := tk + 1 } :=
      I.turnedNew (ch := [e, it]) (fun b ob hb q => (sb.2 b (fun z => hb (by simp [z]))).trans (hk b ob (fun z => hb (by simp [z])) (fun z => hb (by simp [z])) q)) hf (Nat.le_refl _) new
    refine ⟨.ref s.heap.objs.size, _, I1, rfl, ⟨_, x, rfl, I.hok.fresh (Nat.le_refl _), rfl, fun ys hy => by rw [I.tuple_inj hy hq]; exact hx⟩, ⟨⟨x', ?_⟩, hit'.1.at fun o q => (sb.2 it (Ne.symm hne)).trans q, hne⟩, fun b hb => ?_⟩
    · have e1 : ((i + 1 : Nat) : Int) = (i : Int) + 1 := by omega
      rw [e1]; exact he'
    · have hb' : b < s.heap.objs.size := by
        have e' : b = e ∨ b = it := by simpa using hb
        rcases e' with z | z
        · rw [z]; exact hel
        · rw [z]; exact hil
      rw [upd_ne (Nat.ne_of_lt hb')]
      exact (hf b hb).1
  done := by
    intro X hP hw hK hc i pins s σ H E I hf st hg
    subst hP hw hK
    obtain ⟨⟨old, he⟩, hit, hne⟩ := st
    obtain ⟨xs, hq, hx⟩ := hg
    obtain ⟨its, rv, p, hz⟩ := I.tuple hq
    obtain ⟨f0, f1, f2, f3, f4, f5⟩ := hf it (by simp)
    have hl := rv.length
    have hT : s.heap.IsTuple a its.toArray := p
    exact next_enum_endT (I.ok.hd hc) he hit hT (by simp; omega) fun h' eb => ⟨rfl, I.turned (t' := s.toks) (fun b o hb q => eb b o hb q) f0 f1 f3 f4 f5⟩
  self := fun A i s Q E st h => let ⟨⟨_, he⟩, _⟩ := st; wpAny_pyIter_enum he h
def iEnumT (K : PySem.W.Frag) (ta : TA) : TI := fun σ H R => ta σ H fun vs H1 => ∃ a xs, vs = [.ref a] ∧ SqT K H1 a xs ∧ R (Itet K a) H1
theorem pi_enumT {X : Cx} {e : Expr} {ta : TA} {p pos tpos : Pos} {elts : List Expr} {kk : Nat} (hg : Gl X "enumerate") (hm : X.mg "enumerate" = none) (ha : PA X [e] ta) (hs : starEach [e] X.env = [(false, eval e X.env)] := by rfl) :
    PI X (.Tuple elts kk tpos) (.Call (.Name "enumerate" p) [e] [] pos) (iEnumT X.K ta) := by
  refine ⟨fun pins s σ H R I h => ?_⟩
  refine Call_ (ld_blt I hg hm boot_enumerate (PyProof.Rows.callWith_type1 (thn (ha.run pos pins s σ H _ I h) fun us s1 ⟨vs, H1, I1, r1, q1⟩ => ?_) hs rfl))
  obtain ⟨a, xs, ex, hq, q⟩ := q1
  subst ex
  cases r1 with
  | cons r rr =>
    cases rr
    cases r
    obtain ⟨its, rv, p', hz⟩ := I1.tuple hq
    have hal : a < s1.heap.objs.size := p'.lt
    refine call_enumerate_tuple (items := its.toArray) p' fun h' he hit hsz hk => wpAny_pyIter_enum he ?_
    have I2 : Inv X pins σ H1 { s1 with heap := h' } := I1.kept (t' := s1.toks) hk
    refine ⟨s1.heap.objs.size + 1, [s1.heap.objs.size + 1, s1.heap.objs.size], _, _, H1, rfl, I2, turn_enumT a (s1.heap.objs.size + 1) s1.heap.objs.size (Nat.ne_of_lt (Nat.lt_succ_of_lt hal)) (Nat.ne_of_lt hal), ⟨⟨.none, he⟩, hit, Nat.succ_ne_self _⟩, fun b hb => ?_, q⟩
    have e' : b = s1.heap.objs.size + 1 ∨ b = s1.heap.objs.size := by simpa using hb
    have hle : s1.heap.objs.size ≤ b := by
      rcases e' with z | z
      · rw [z]; exact Nat.le_add_right _ _
      · rw [z]; exact Nat.le_refl _
    exact I1.fpOk hle (I1.hok.fresh hle)
/-! xs.extend(t), t a tuple told so -/
def rExtendZ : V → List V → Hp → VK → Prop := fun x vs H Q => ∃ l b xs zs, x = .ref l ∧ vs = [.ref b] ∧ H l = some (.lst xs) ∧ Zt H b zs ∧ xs.length + zs.length ≤ sizeLine ∧ Q .non (upd H l (.lst (xs ++ zs)))
theorem mt_extendZ {X : Cx} : MtR X "list.extend" rExtendZ := by
  intro pins s σ H x vs v us Q I rx rv h
  obtain ⟨l, b, xs, zs, rfl, rfl, hH, hB, hz, q⟩ := h
  cases rx
  obtain ⟨u, rfl, ru⟩ := vals1 rv
  cases ru
  obtain ⟨z, its, n, r, hl, e⟩ := I.lstM hH
  obtain ⟨its2, r2, _, _⟩ := I.tuple (Zt.sq (K := X.K) hB)
  obtain ⟨od, ⟨hd1, hd2⟩, hod⟩ := hB
  obtain ⟨ho, hz2, its3, r3, ⟨o, ho3, hc3, n3, hd3⟩⟩ := I.hok b _ hod
  rw [ho] at ho3
  cases ho3
  have e2 : s.heap.get? b = some { cls := .type "tuple", dict := none, data := .seq its3.toArray n3, slots := #[] } := by
    rw [ho]
    obtain ⟨c, d, dt, sl⟩ := od
    simp only at hd1 hd2 hc3 hd3
    rw [hd1, hd2, hc3, hd3]
  have hl2 := r3.length
  have hsz : its.toArray.size + its3.toArray.size ≤ sizeLine := by rw [List.size_toArray, List.size_toArray]; omega
  have hlong : ¬ (!its.toArray.isEmpty && Builtin.List.listTooLong (its.toArray.size + its3.toArray.size)) = true := by
    rw [notLongL hsz, Bool.and_false]
    exact Bool.false_ne_true
  refine call_meets PySem.F.slot_list_extend ⟨_, e, rfl⟩ PySem.F.entry_list_extend (PySem.F.args_list_extend_2 _ _)
    (AutoSeq1.list_extend_list_tuple_0 l its.toArray n b its3.toArray n3 hlong (by rw [List.size_toArray]; omega) (by omega)) ⟨e, e2, ?_⟩
  refine ⟨.non, _, I.lset (its' := its ++ its3) hH e (by simp) (r.append r3) ?_, rfl, q⟩
  rw [List.length_append]
  omega
end AB
set_option Elab.async false
set_option linter.all false
set_option maxRecDepth 100000
set_option maxHeartbeats 4000000
/-! The heap told by data: what never changes any more is a D; what a def still changes (its own lists and dicts) stands in a small store; a reading runs on slots and store (WE, WA, WT, WS). -/
namespace AB
open PySem PySem.Spec PyProof.Rows L2 Evl
inductive D where
  | non | bl (b : Bool) | int (i : Int) | str (x : Str) | ty (n : String) | lst (l : List D) | tup (l : List D) | ptup (l : List D) | dic (ks : List Key) (l : List D)
inductive Rep (H : Hp) : V → D → Prop
  | non : Rep H .non .non
  | bl (b : Bool) : Rep H (.bl b) (.bl b)
  | int (i : Int) : Rep H (.int i) (.int i)
  | str (x : Str) : Rep H (.str x) (.str x)
  | ty (n : String) : Rep H (.ty n) (.ty n)
  | lst {a : Addr} {vs : List V} {ds : List D} (e : H a = some (.lst vs)) (n : vs.length = ds.length) (r : ∀ (i : Nat) (v : V) (d : D), vs[i]? = some v → ds[i]? = some d → Rep H v d) : Rep H (.ref a) (.lst ds)
  | tup {a : Addr} {vs : List V} {ds : List D} (e : Zt H a vs) (n : vs.length = ds.length) (r : ∀ (i : Nat) (v : V) (d : D), vs[i]? = some v → ds[i]? = some d → Rep H v d) : Rep H (.ref a) (.tup ds)
  | ptup {a : Addr} {vs : List V} {ds : List D} (e : H a = some (.tup vs)) (n : vs.length = ds.length) (r : ∀ (i : Nat) (v : V) (d : D), vs[i]? = some v → ds[i]? = some d → Rep H v d) : Rep H (.ref a) (.ptup ds)
  | dic {a : Addr} {o : Obj} {kvs : List (Key × V)} {ks : List Key} {ds : List D} (e : H a = some (.frz o (.dK kvs))) (k : kvs.map Prod.fst = ks) (n : kvs.length = ds.length)
      (r : ∀ (i : Nat) (v : V) (d : D), (kvs.map Prod.snd)[i]? = some v → ds[i]? = some d → Rep H v d) : Rep H (.ref a) (.dic ks ds)
theorem Rep.mono {H H' : Hp} (e : Ex H H') {v : V} {d : D} (r : Rep H v d) : Rep H' v d := by
  induction r with
  | non => exact .non
  | bl b => exact .bl b
  | int i => exact .int i
  | str x => exact .str x
  | ty n => exact .ty n
  | lst e1 n _ ih => exact .lst (e _ _ e1) n ih
  | tup e1 n _ ih => exact .tup (e1.mono e) n ih
  | ptup e1 n _ ih => exact .ptup (e _ _ e1) n ih
  | dic e1 k n _ ih => exact .dic (e _ _ e1) k n ih
/-- what a slot, a store's place holds: data, or a thing of the store -/
inductive A where
  | d (x : D) | m (a : Addr)
  /-- a list of numbers that may lie in the module's own heap: a law's script -/
  | s (K : PySem.W.Frag) (ns : List Int)
inductive Mo where
  | lst (xs : List A) | dK (kvs : List (Key × A)) | dT (kvs : List (List Key × A))
  /-- a dict that is locked for a while (walked); told with the very object -/
  | fz (o : Obj) (ws : List (Key × V)) (kvs : List (Key × A))
  | fzT (o : Obj) (ws : List (List Key × V)) (kvs : List (List Key × A))
abbrev Sto := Addr → Option Mo
def pu (ρ : Sto) (a : Addr) (o : Mo) : Sto := fun b => if b = a then some o else ρ b
theorem pu_same {ρ : Sto} {a : Addr} {o : Mo} : pu ρ a o a = some o := if_pos rfl
theorem pu_ne {ρ : Sto} {a b : Addr} {o : Mo} (h : b ≠ a) : pu ρ a o b = ρ b := if_neg h
theorem pu_pu {ρ : Sto} {a : Addr} {o u : Mo} : pu (pu ρ a o) a u = pu ρ a u := by
  funext b
  unfold pu
  split <;> rfl
theorem ne_pu {ρ : Sto} {a b : Addr} {o : Mo} (h : ρ b = some o) (n : ρ a = none) : b ≠ a := fun z => by
  rw [z, n] at h
  cases h
def Sub (ρ' ρ : Sto) : Prop := ∀ a o, ρ' a = some o → ρ a = some o
theorem Sub.refl (ρ : Sto) : Sub ρ ρ := fun _ _ h => h
theorem Sub.trans {a b c : Sto} (h : Sub a b) (k : Sub b c) : Sub a c := fun x o e => k x o (h x o e)
theorem Sub.new {ρ' ρ : Sto} (s : Sub ρ' ρ) {a : Addr} {o : Mo} (n : ρ' a = none) : Sub ρ' (pu ρ a o) := fun b u e => by
  rw [pu_ne (ne_pu e n)]
  exact s b u e
/-- the heap without the store's things -/
def hf (ρ : Sto) (H : Hp) : Hp := fun b => match ρ b with
  | some _ => none
  | none => H b
theorem hf_out {ρ : Sto} {H : Hp} {b : Addr} (h : ρ b = none) : hf ρ H b = H b := by
  unfold hf
  rw [h]
theorem hf_in {ρ : Sto} {H : Hp} {b : Addr} {o : Mo} (h : ρ b = some o) : hf ρ H b = none := by
  unfold hf
  rw [h]
theorem hf_some {ρ : Sto} {H : Hp} {b : Addr} {o : HO} (h : hf ρ H b = some o) : ρ b = none ∧ H b = some o := by
  unfold hf at h
  split at h
  · cases h
  · exact ⟨by assumption, h⟩
theorem hf_ex (ρ : Sto) (H : Hp) : Ex (hf ρ H) H := fun _ _ e => (hf_some e).2
theorem hf_sub {ρ ρ' : Sto} {H : Hp} (s : Sub ρ' ρ) : Ex (hf ρ H) (hf ρ' H) := fun b o e => by
  obtain ⟨n, e'⟩ := hf_some e
  cases z : ρ' b with
  | none =>
    rw [hf_out z]
    exact e'
  | some u =>
    rw [s b u z] at n
    cases n
def RA (H : Hp) (ρ : Sto) (v : V) : A → Prop
  | .d x => Rep (hf ρ H) v x
  | .m a => v = .ref a
  | .s K ns => ∃ a, v = .ref a ∧ SqL K (hf ρ H) a (ns.map V.int)
abbrev RAs (H : Hp) (ρ : Sto) : List V → List A → Prop := Paired (RA H ρ)
def MoAt (H : Hp) (ρ : Sto) (a : Addr) : Mo → Prop
  | .lst xs => ∃ vs, H a = some (.lst vs) ∧ RAs H ρ vs xs
  | .dK kvs => ∃ ws : List (Key × V), H a = some (.dK ws) ∧ Paired (fun (p : Key × V) (q : Key × A) => p.1 = q.1 ∧ RA H ρ p.2 q.2) ws kvs
  | .dT kvs => ∃ ws : List (List Key × V), H a = some (.dT ws) ∧ Paired (fun (p : List Key × V) (q : List Key × A) => p.1 = q.1 ∧ RA H ρ p.2 q.2) ws kvs
  | .fz o ws kvs => H a = some (.frz o (.dK ws)) ∧ Paired (fun (p : Key × V) (q : Key × A) => p.1 = q.1 ∧ RA H ρ p.2 q.2) ws kvs
  | .fzT o ws kvs => H a = some (.frz o (.dT ws)) ∧ Paired (fun (p : List Key × V) (q : List Key × A) => p.1 = q.1 ∧ RA H ρ p.2 q.2) ws kvs
def Sat (H : Hp) (ρ : Sto) : Prop := ∀ a o, ρ a = some o → MoAt H ρ a o
def Step (H : Hp) (ρ : Sto) (H' : Hp) (ρ' : Sto) : Prop := Ex (hf ρ H) (hf ρ' H')
theorem Step.refl (H : Hp) (ρ : Sto) : Step H ρ H ρ := Ex.refl _
theorem Step.trans {H H1 H2 : Hp} {ρ ρ1 ρ2 : Sto} (a : Step H ρ H1 ρ1) (b : Step H1 ρ1 H2 ρ2) : Step H ρ H2 ρ2 := Ex.trans a b
theorem RA.step {H H' : Hp} {ρ ρ' : Sto} (s : Step H ρ H' ρ') {v : V} {x : A} (h : RA H ρ v x) : RA H' ρ' v x := by
  cases x with
  | d x => exact Rep.mono s h
  | m a => exact h
  | s K ns =>
    obtain ⟨a, e, h⟩ := h
    exact ⟨a, e, ex_l s h⟩
theorem pa_step {H H' : Hp} {ρ ρ' : Sto} (s : Step H ρ H' ρ') {vs : List V} {xs : List A} (h : RAs H ρ vs xs) : RAs H' ρ' vs xs := Paired.mono (fun _ _ r => r.step s) h
/-- a place's object is as it was, the rest has gone on -/
theorem MoAt.step {H H' : Hp} {ρ ρ' : Sto} {a : Addr} {o : Mo} (s : Step H ρ H' ρ') (e : H' a = H a) (h : MoAt H ρ a o) : MoAt H' ρ' a o := by
  cases o with
  | lst xs =>
    obtain ⟨vs, q, r⟩ := h
    exact ⟨vs, e.trans q, pa_step s r⟩
  | dK kvs =>
    obtain ⟨vs, q, r⟩ := h
    exact ⟨vs, e.trans q, Paired.mono (fun _ _ r => ⟨r.1, r.2.step s⟩) r⟩
  | dT kvs =>
    obtain ⟨vs, q, r⟩ := h
    exact ⟨vs, e.trans q, Paired.mono (fun _ _ r => ⟨r.1, r.2.step s⟩) r⟩
  | fz ob ws kvs =>
    obtain ⟨q, r⟩ := h
    exact ⟨e.trans q, Paired.mono (fun _ _ r => ⟨r.1, r.2.step s⟩) r⟩
  | fzT ob ws kvs =>
    obtain ⟨q, r⟩ := h
    exact ⟨e.trans q, Paired.mono (fun _ _ r => ⟨r.1, r.2.step s⟩) r⟩
theorem Sat.sub {H : Hp} {ρ ρ' : Sto} (h : Sat H ρ) (s : Sub ρ' ρ) : Sat H ρ' := fun a o e => (h a o (s a o e)).step (hf_sub s) rfl
theorem Step.sub {H : Hp} {ρ ρ' : Sto} (s : Sub ρ' ρ) : Step H ρ H ρ' := hf_sub s
theorem MoAt.some {H : Hp} {ρ : Sto} {a : Addr} {o : Mo} (h : MoAt H ρ a o) : ∃ u, H a = some u := by
  cases o with
  | lst xs => exact ⟨_, h.choose_spec.1⟩
  | dK kvs => exact ⟨_, h.choose_spec.1⟩
  | dT kvs => exact ⟨_, h.choose_spec.1⟩
  | fz ob ws kvs => exact ⟨_, h.1⟩
  | fzT ob ws kvs => exact ⟨_, h.1⟩
theorem Sat.free {H : Hp} {ρ : Sto} (h : Sat H ρ) {a : Addr} (n : H a = none) : ρ a = none := by
  cases e : ρ a with
  | none => rfl
  | some o =>
    obtain ⟨u, z⟩ := (h a o e).some
    rw [n] at z
    cases z
/-- a new thing that stays as it is -/
theorem Sat.new {H : Hp} {ρ : Sto} (h : Sat H ρ) {a : Addr} {u : HO} (n : H a = none) : Step H ρ (upd H a u) ρ ∧ Sat (upd H a u) ρ := by
  have s : Step H ρ (upd H a u) ρ := fun b o e => by
    obtain ⟨z, q⟩ := hf_some e
    rw [hf_out z, upd_ne (ne_of_none q n)]
    exact q
  exact ⟨s, fun b o e => (h b o e).step s (upd_ne fun z => by rw [z, h.free n] at e; cases e)⟩
/-- a new thing of the store -/
theorem Sat.add {H : Hp} {ρ : Sto} (h : Sat H ρ) {a : Addr} {u : HO} {o : Mo} (n : H a = none) (k : ∀ H' ρ', Step H ρ H' ρ' → H' a = some u → MoAt H' ρ' a o) : Step H ρ (upd H a u) (pu ρ a o) ∧ Sat (upd H a u) (pu ρ a o) := by
  have s : Step H ρ (upd H a u) (pu ρ a o) := fun b o' e => by
    obtain ⟨z, q⟩ := hf_some e
    have nb := ne_of_none q n
    rw [hf_out (by rw [pu_ne nb]; exact z), upd_ne nb]
    exact q
  refine ⟨s, fun b o' e => ?_⟩
  by_cases z : b = a
  · subst z
    rw [pu_same] at e
    cases e
    exact k _ _ s upd_same
  · rw [pu_ne z] at e
    exact (h b o' e).step s (upd_ne z)
/-- a thing of the store is changed -/
theorem Sat.put {H : Hp} {ρ : Sto} (h : Sat H ρ) {a : Addr} {u : HO} {o o0 : Mo} (n : ρ a = some o0) (k : ∀ H' ρ', Step H ρ H' ρ' → H' a = some u → MoAt H' ρ' a o) : Step H ρ (upd H a u) (pu ρ a o) ∧ Sat (upd H a u) (pu ρ a o) := by
  have s : Step H ρ (upd H a u) (pu ρ a o) := fun b o' e => by
    obtain ⟨z, q⟩ := hf_some e
    have nb : b ≠ a := fun w => by rw [w, n] at z; cases z
    rw [hf_out (by rw [pu_ne nb]; exact z), upd_ne nb]
    exact q
  refine ⟨s, fun b o' e => ?_⟩
  by_cases z : b = a
  · subst z
    rw [pu_same] at e
    cases e
    exact k _ _ s upd_same
  · rw [pu_ne z] at e
    exact (h b o' e).step s (upd_ne z)
/-! ### slots -/
abbrev Env := List (Option A)
def RS (H : Hp) (ρ : Sto) (o : Option V) (g : Option A) : Prop := ∀ x, g = some x → ∃ v, o = some v ∧ RA H ρ v x
abbrev SE (H : Hp) (ρ : Sto) : L2.St → Env → Prop := Paired (RS H ρ)
theorem se_step {H H' : Hp} {ρ ρ' : Sto} (s : Step H ρ H' ρ') {σ : L2.St} {γ : Env} (h : SE H ρ σ γ) : SE H' ρ' σ γ := Paired.mono (fun _ _ r x e => by
  obtain ⟨v, e1, r1⟩ := r x e
  exact ⟨v, e1, r1.step s⟩) h
theorem paired_at {α β : Type} {F : α → β → Prop} : ∀ {l₁ : List α} {l₂ : List β}, Paired F l₁ l₂ → ∀ {i : Nat} {b : β}, l₂[i]? = some b → ∃ a, l₁[i]? = some a ∧ F a b
  | _, _, .nil, i, b, h => by simp at h
  | _, _, .cons h _, 0, b, e => by
    cases Option.some.inj e
    exact ⟨_, rfl, h⟩
  | _, _, .cons _ t, i + 1, b, e => paired_at t (i := i) e
theorem paired_at' {α β : Type} {F : α → β → Prop} : ∀ {l₁ : List α} {l₂ : List β}, Paired F l₁ l₂ → ∀ {i : Nat} {a : α}, l₁[i]? = some a → ∃ b, l₂[i]? = some b ∧ F a b
  | _, _, .nil, i, b, h => by simp at h
  | _, _, .cons h _, 0, b, e => by
    cases Option.some.inj e
    exact ⟨_, rfl, h⟩
  | _, _, .cons _ t, i + 1, b, e => paired_at' t (i := i) e
theorem paired_set {α β : Type} {F : α → β → Prop} {a : α} {b : β} (h : F a b) : ∀ {l₁ : List α} {l₂ : List β}, Paired F l₁ l₂ → ∀ i : Nat, Paired F (l₁.set i a) (l₂.set i b)
  | _, _, .nil, i => .nil
  | _, _, .cons _ t, 0 => .cons h t
  | _, _, .cons h1 t, i + 1 => .cons h1 (paired_set h t i)
theorem paired_app {α β : Type} {F : α → β → Prop} : ∀ {l₁ : List α} {l₂ : List β} {m₁ : List α} {m₂ : List β}, Paired F l₁ l₂ → Paired F m₁ m₂ → Paired F (l₁ ++ m₁) (l₂ ++ m₂)
  | _, _, _, _, .nil, h => h
  | _, _, _, _, .cons h t, k => .cons h (paired_app t k)
theorem paired_of {α β : Type} {F : α → β → Prop} : ∀ {l₁ : List α} {l₂ : List β}, l₁.length = l₂.length → (∀ (i : Nat) (a : α) (b : β), l₁[i]? = some a → l₂[i]? = some b → F a b) → Paired F l₁ l₂
  | [], [], _, _ => .nil
  | a :: l₁, b :: l₂, h, k => .cons (k 0 a b rfl rfl) (paired_of (Nat.succ.inj h) fun i a b e1 e2 => k (i + 1) a b e1 e2)
  | [], _ :: _, h, _ => by cases h
  | _ :: _, [], h, _ => by cases h
theorem paired_rel {α β : Type} {F : α → β → Prop} {l₁ : List α} {l₂ : List β} (h : Paired F l₁ l₂) (i : Nat) (a : α) (b : β) (e1 : l₁[i]? = some a) (e2 : l₂[i]? = some b) : F a b := by
  obtain ⟨a', e, r⟩ := paired_at h e2
  rw [e1] at e
  cases e
  exact r
theorem se_set {H : Hp} {ρ : Sto} {σ : L2.St} {γ : Env} (h : SE H ρ σ γ) {v : V} {x : A} (r : RA H ρ v x) (i : Nat) : SE H ρ (σ.set i (some v)) (γ.set i (some x)) :=
  paired_set (fun y e => by cases e; exact ⟨v, rfl, r⟩) h i
/-- data of data -/
theorem rep_list {H : Hp} {ρ : Sto} {vs : List V} {ds : List D} (h : RAs H ρ vs (ds.map .d)) : vs.length = ds.length ∧ ∀ (i : Nat) (v : V) (d : D), vs[i]? = some v → ds[i]? = some d → Rep (hf ρ H) v d :=
  ⟨by rw [h.length, List.length_map], fun i v d e1 e2 => paired_rel h i v (.d d) e1 (by rw [List.getElem?_map, e2]; rfl)⟩
theorem ras_list {H : Hp} {ρ : Sto} {vs : List V} {ds : List D} (n : vs.length = ds.length) (r : ∀ (i : Nat) (v : V) (d : D), vs[i]? = some v → ds[i]? = some d → Rep (hf ρ H) v d) : RAs H ρ vs (ds.map .d) :=
  paired_of (by rw [n, List.length_map]) fun i v x e1 e2 => by
    rw [List.getElem?_map] at e2
    cases e : ds[i]? with
    | none =>
      rw [e] at e2
      cases e2
    | some d =>
      rw [e] at e2
      cases e2
      exact r i v d e1 e
end AB
set_option Elab.async false
set_option linter.all false
set_option maxRecDepth 100000
set_option maxHeartbeats 4000000
namespace AB
open PySem PySem.Spec PyProof.Rows L2 Evl
/-! ### readings on slots and store -/
abbrev QA := A → Sto → Prop
/-- what K must take: any heap that is a step on and tells x and ρ' with Q x ρ' -/
def Tk (H : Hp) (ρ : Sto) (Q : QA) (K : VK) : Prop := ∀ (H' : Hp) (ρ' : Sto) (v : V) (x : A), Sat H' ρ' → Step H ρ H' ρ' → RA H' ρ' v x → Q x ρ' → K v H'
theorem Tk.step {H H1 : Hp} {ρ ρ1 : Sto} {Q : QA} {K : VK} (s : Step H ρ H1 ρ1) (k : Tk H ρ Q K) : Tk H1 ρ1 Q K := fun H' ρ' v x a b => k H' ρ' v x a (s.trans b)
def WE (te : TE) (γ : Env) (ρ : Sto) (Q : QA) : Prop := ∀ (H : Hp) (σ : L2.St), Sat H ρ → SE H ρ σ γ → ∀ K : VK, Tk H ρ Q K → te σ H K
def WA (ta : TA) (γ : Env) (ρ : Sto) (Q : List A → Sto → Prop) : Prop := ∀ (H : Hp) (σ : L2.St), Sat H ρ → SE H ρ σ γ → ∀ K : List V → Hp → Prop,
  (∀ (H' : Hp) (ρ' : Sto) (vs : List V) (xs : List A), Sat H' ρ' → Step H ρ H' ρ' → RAs H' ρ' vs xs → Q xs ρ' → K vs H') → ta σ H K
def WT (tt : TT) (γ : Env) (ρ : Sto) (Q : Bool → Sto → Prop) : Prop := ∀ (H : Hp) (σ : L2.St), Sat H ρ → SE H ρ σ γ → ∀ K : Bool → Hp → Prop,
  (∀ (H' : Hp) (ρ' : Sto) (b : Bool), Sat H' ρ' → Step H ρ H' ρ' → Q b ρ' → K b H') → tt σ H K
/-- a rule on values: x op y, f(x), f(xs) -/
def O2 (r : R2) (x y : A) (ρ : Sto) (Q : QA) : Prop := ∀ (H : Hp) (v w : V), Sat H ρ → RA H ρ v x → RA H ρ w y → ∀ K : VK, Tk H ρ Q K → r v w H K
def O1 (r : V → Hp → VK → Prop) (x : A) (ρ : Sto) (Q : QA) : Prop := ∀ (H : Hp) (v : V), Sat H ρ → RA H ρ v x → ∀ K : VK, Tk H ρ Q K → r v H K
def ON (r : List V → Hp → VK → Prop) (xs : List A) (ρ : Sto) (Q : QA) : Prop := ∀ (H : Hp) (vs : List V), Sat H ρ → RAs H ρ vs xs → ∀ K : VK, Tk H ρ Q K → r vs H K
section
variable {γ : Env} {ρ : Sto} {Q : QA} {te ta tb : TE} {t u : TT} {tr : TA}
theorem WE.mono {Q' : QA} (h : WE te γ ρ Q) (q : ∀ x ρ', Q x ρ' → Q' x ρ') : WE te γ ρ Q' := fun H σ s e K k => h H σ s e K fun H' ρ' v x a b c d => k H' ρ' v x a b c (q x ρ' d)
theorem WT.mono {Q Q' : Bool → Sto → Prop} (h : WT t γ ρ Q) (q : ∀ x ρ', Q x ρ' → Q' x ρ') : WT t γ ρ Q' := fun H σ s e K k => h H σ s e K fun H' ρ' b a c d => k H' ρ' b a c (q b ρ' d)
theorem we_var {i : Nat} {x : A} (h : γ[i]? = some (some x)) (q : Q x ρ) : WE (tVar i) γ ρ Q := fun H σ s e K k => by
  obtain ⟨o, e1, r⟩ := paired_at e h
  obtain ⟨v, rfl, rv⟩ := r x rfl
  exact ⟨v, e1, k H ρ v x s (Step.refl _ _) rv q⟩
theorem we_c {v : V} {x : D} (h : ∀ H, Rep H v x) (q : Q (.d x) ρ) : WE (tC v) γ ρ Q := fun H σ s _ K k => k H ρ v (.d x) s (Step.refl _ _) (h _) q
theorem we_int {i : Int} (q : Q (.d (.int i)) ρ) : WE (tC (.int i)) γ ρ Q := we_c (fun _ => .int i) q
theorem we_str {i : Str} (q : Q (.d (.str i)) ρ) : WE (tC (.str i)) γ ρ Q := we_c (fun _ => .str i) q
theorem we_bl {i : Bool} (q : Q (.d (.bl i)) ρ) : WE (tC (.bl i)) γ ρ Q := we_c (fun _ => .bl i) q
theorem we_non (q : Q (.d .non) ρ) : WE (tC .non) γ ρ Q := we_c (fun _ => .non) q
theorem we_op {r : R2} (h : WE ta γ ρ fun x ρ1 => WE tb γ ρ1 fun y ρ2 => O2 r x y ρ2 Q) : WE (tOp r ta tb) γ ρ Q := fun H σ s e K k =>
  h H σ s e _ fun H1 ρ1 v x s1 g1 rv q1 => q1 H1 σ s1 (se_step g1 e) _ fun H2 ρ2 w y s2 g2 rw q2 => q2 H2 v w s2 (rv.step g2) rw K (k.step (g1.trans g2))
theorem we_un {r : V → Hp → VK → Prop} (h : WE ta γ ρ fun x ρ1 => O1 r x ρ1 Q) : WE (tUn r ta) γ ρ Q := fun H σ s e K k =>
  h H σ s e _ fun H1 ρ1 v x s1 g1 rv q1 => q1 H1 v s1 rv K (k.step g1)
theorem wa_nil {Q : List A → Sto → Prop} (q : Q [] ρ) : WA tNil γ ρ Q := fun H σ s _ K k => k H ρ [] [] s (Step.refl _ _) .nil q
theorem wa_cons {Q : List A → Sto → Prop} (h : WE te γ ρ fun x ρ1 => WA tr γ ρ1 fun xs ρ2 => Q (x :: xs) ρ2) : WA (tCons te tr) γ ρ Q := fun H σ s e K k =>
  h H σ s e _ fun H1 ρ1 v x s1 g1 rv q1 => q1 H1 σ s1 (se_step g1 e) _ fun H2 ρ2 vs xs s2 g2 rs q2 => k H2 ρ2 (v :: vs) (x :: xs) s2 (g1.trans g2) (.cons (rv.step g2) rs) q2
theorem we_cb {r : List V → Hp → VK → Prop} (h : WA tr γ ρ fun xs ρ1 => ON r xs ρ1 Q) : WE (tCB r tr) γ ρ Q := fun H σ s e K k =>
  h H σ s e _ fun H1 ρ1 vs xs s1 g1 rs q1 => q1 H1 vs s1 rs K (k.step g1)
/-- data become a tuple, a list; a new list of the store -/
def dats (xs : List A) (ds : List D) : Prop := xs = ds.map .d
theorem tk_tup {H : Hp} {ρ1 : Sto} {Q : QA} {K : VK} {vs : List V} {ds : List D} (s1 : Sat H ρ1) (rs : RAs H ρ1 vs (ds.map .d)) (k : Tk H ρ1 Q K) (q : Q (.d (.tup ds)) ρ1) {p : Addr} {od : Obj} (hd : Nk od) (hp : H p = none) : K (.ref p) (upd H p (.frz od (.tup vs))) := by
  obtain ⟨g, s2⟩ := s1.new (u := .frz od (.tup vs)) hp
  obtain ⟨n, r⟩ := rep_list rs
  exact k _ ρ1 (.ref p) (.d (.tup ds)) s2 g (.tup ⟨od, hd, by rw [hf_out (s1.free hp), upd_same]⟩ n fun i v d e1 e2 => (r i v d e1 e2).mono g) q
theorem tk_ptup {H : Hp} {ρ1 : Sto} {Q : QA} {K : VK} {vs : List V} {ds : List D} (s1 : Sat H ρ1) (rs : RAs H ρ1 vs (ds.map .d)) (k : Tk H ρ1 Q K) (q : Q (.d (.ptup ds)) ρ1) {p : Addr} (hp : H p = none) : K (.ref p) (upd H p (.tup vs)) := by
  obtain ⟨g, s2⟩ := s1.new (u := .tup vs) hp
  obtain ⟨n, r⟩ := rep_list rs
  exact k _ ρ1 (.ref p) (.d (.ptup ds)) s2 g (.ptup (by rw [hf_out (s1.free hp), upd_same]) n fun i v d e1 e2 => (r i v d e1 e2).mono g) q
theorem tk_lst {H : Hp} {ρ1 : Sto} {Q : QA} {K : VK} {vs : List V} {ds : List D} (s1 : Sat H ρ1) (rs : RAs H ρ1 vs (ds.map .d)) (k : Tk H ρ1 Q K) (q : Q (.d (.lst ds)) ρ1) {p : Addr} (hp : H p = none) : K (.ref p) (upd H p (.lst vs)) := by
  obtain ⟨g, s2⟩ := s1.new (u := .lst vs) hp
  obtain ⟨n, r⟩ := rep_list rs
  exact k _ ρ1 (.ref p) (.d (.lst ds)) s2 g (.lst (by rw [hf_out (s1.free hp), upd_same]) n fun i v d e1 e2 => (r i v d e1 e2).mono g) q
theorem tk_lstM {H : Hp} {ρ1 : Sto} {Q : QA} {K : VK} {vs : List V} {xs : List A} (s1 : Sat H ρ1) (rs : RAs H ρ1 vs xs) (k : Tk H ρ1 Q K) (q : ∀ a, ρ1 a = none → Q (.m a) (pu ρ1 a (.lst xs))) {p : Addr} (hp : H p = none) : K (.ref p) (upd H p (.lst vs)) := by
  obtain ⟨g, s2⟩ := s1.add (u := .lst vs) (o := .lst xs) hp fun H' ρ' g e => ⟨vs, e, pa_step g rs⟩
  exact k _ _ (.ref p) (.m p) s2 g rfl (q p (s1.free hp))
theorem we_tup (h : WA tr γ ρ fun xs ρ1 => ∃ ds : List D, xs = ds.map .d ∧ ds.length ≤ 100000 ∧ Q (.d (.tup ds)) ρ1) : WE (tTupZ tr) γ ρ Q := fun H σ s e K k => h H σ s e _ fun H1 ρ1 vs xs s1 g1 rs ⟨ds, ex, hz, q⟩ => by
  subst ex
  exact ⟨sz_of (by rw [(rep_list rs).1]; exact hz), fun p od hd hp => tk_tup s1 rs (k.step g1) q hd hp⟩
theorem we_ptup (h : WA tr γ ρ fun xs ρ1 => ∃ ds : List D, xs = ds.map .d ∧ ds.length ≤ 100000 ∧ Q (.d (.ptup ds)) ρ1) : WE (tTup tr) γ ρ Q := fun H σ s e K k => h H σ s e _ fun H1 ρ1 vs xs s1 g1 rs ⟨ds, ex, hz, q⟩ => by
  subst ex
  exact ⟨sz_of (by rw [(rep_list rs).1]; exact hz), fun p hp => tk_ptup s1 rs (k.step g1) q hp⟩
theorem we_lst (h : WA tr γ ρ fun xs ρ1 => ∃ ds : List D, xs = ds.map .d ∧ ds.length ≤ 100000 ∧ Q (.d (.lst ds)) ρ1) : WE (tLst tr) γ ρ Q := fun H σ s e K k => h H σ s e _ fun H1 ρ1 vs xs s1 g1 rs ⟨ds, ex, hz, q⟩ => by
  subst ex
  exact ⟨sz_of (by rw [(rep_list rs).1]; exact hz), fun p hp => tk_lst s1 rs (k.step g1) q hp⟩
theorem we_lstM (h : WA tr γ ρ fun xs ρ1 => xs.length ≤ 100000 ∧ ∀ a, ρ1 a = none → Q (.m a) (pu ρ1 a (.lst xs))) : WE (tLst tr) γ ρ Q := fun H σ s e K k => h H σ s e _ fun H1 ρ1 vs xs s1 g1 rs ⟨hz, q⟩ =>
  ⟨sz_of (by rw [rs.length]; exact hz), fun p hp => tk_lstM s1 rs (k.step g1) q hp⟩
theorem we_dictM (q : ∀ a, ρ a = none → Q (.m a) (pu ρ a (.dK []))) : WE tDNewK γ ρ Q := fun H σ s e K k p hp => by
  obtain ⟨g, s2⟩ := s.add (u := .dK []) (o := .dK []) hp fun H' ρ' g e => ⟨[], e, .nil⟩
  exact k _ _ (.ref p) (.m p) s2 g rfl (q p (s.free hp))
theorem we_dictT (q : ∀ a, ρ a = none → Q (.m a) (pu ρ a (.dT []))) : WE tDNewT γ ρ Q := fun H σ s e K k p hp => by
  obtain ⟨g, s2⟩ := s.add (u := .dT []) (o := .dT []) hp fun H' ρ' g e => ⟨[], e, .nil⟩
  exact k _ _ (.ref p) (.m p) s2 g rfl (q p (s.free hp))
/-! tests -/
theorem wt_B (h : WE te γ ρ fun x ρ1 => ∃ b, x = .d (.bl b) ∧ Q' b ρ1) : WT (tB te) γ ρ Q' := fun H σ s e K k => h H σ s e _ fun H1 ρ1 v x s1 g1 rv ⟨b, ex, q⟩ => by
  subst ex
  cases rv
  exact ⟨b, rfl, k H1 ρ1 b s1 g1 q⟩
theorem wt_test (h : WE te γ ρ fun x ρ1 => ∃ b, x = .d (.bl b) ∧ Q' b ρ1) : WT (tTest te) γ ρ Q' := fun H σ s e K k => h H σ s e _ fun H1 ρ1 v x s1 g1 rv ⟨b, ex, q⟩ => by
  subst ex
  cases rv
  exact ⟨b, rfl, k H1 ρ1 b s1 g1 q⟩
theorem wt_not {Q : Bool → Sto → Prop} (h : WT t γ ρ fun b ρ1 => Q (!b) ρ1) : WT (tNot t) γ ρ Q := fun H σ s e K k => h H σ s e _ fun H1 ρ1 b s1 g1 q => k H1 ρ1 _ s1 g1 q
theorem wt_and {Q : Bool → Sto → Prop} (h : WT t γ ρ fun b ρ1 => (b = true → WT u γ ρ1 Q) ∧ (b = false → Q false ρ1)) : WT (tAnd t u) γ ρ Q := fun H σ s e K k => h H σ s e _ fun H1 ρ1 b s1 g1 q => by
  cases b with
  | true => exact q.1 rfl H1 σ s1 (se_step g1 e) K fun H2 ρ2 b2 s2 g2 => k H2 ρ2 b2 s2 (g1.trans g2)
  | false => exact k H1 ρ1 false s1 g1 (q.2 rfl)
theorem wt_or {Q : Bool → Sto → Prop} (h : WT t γ ρ fun b ρ1 => (b = true → Q true ρ1) ∧ (b = false → WT u γ ρ1 Q)) : WT (tOr t u) γ ρ Q := fun H σ s e K k => h H σ s e _ fun H1 ρ1 b s1 g1 q => by
  cases b with
  | true => exact k H1 ρ1 true s1 g1 (q.1 rfl)
  | false => exact q.2 rfl H1 σ s1 (se_step g1 e) K fun H2 ρ2 b2 s2 g2 => k H2 ρ2 b2 s2 (g1.trans g2)
theorem wt_yes {Q : Bool → Sto → Prop} (q : Q true ρ) : WT tYes γ ρ Q := fun H σ s _ K k => k H ρ true s (Step.refl _ _) q
theorem we_if (h : WT t γ ρ fun b ρ1 => (b = true → WE ta γ ρ1 Q) ∧ (b = false → WE tb γ ρ1 Q)) : WE (tIf t ta tb) γ ρ Q := fun H σ s e K k => h H σ s e _ fun H1 ρ1 b s1 g1 q => by
  cases b with
  | true => exact q.1 rfl H1 σ s1 (se_step g1 e) K (k.step g1)
  | false => exact q.2 rfl H1 σ s1 (se_step g1 e) K (k.step g1)
/-! ### operations -/
theorem o2_I0 {g : Int → Int → V} {i j : Int} {x : D} (h : ∀ H, Rep H (g i j) x) (q : Q (.d x) ρ) : O2 (rI0 g) (.d (.int i)) (.d (.int j)) ρ Q := fun H v w s rv rw K k => by
  cases rv
  cases rw
  exact ⟨i, j, rfl, rfl, k H ρ _ (.d x) s (Step.refl _ _) (h _) q⟩
theorem o2_I {C : Int → Int → Prop} {g : Int → Int → V} {i j : Int} {x : D} (h : ∀ H, Rep H (g i j) x) (c : C i j) (q : Q (.d x) ρ) : O2 (rI C g) (.d (.int i)) (.d (.int j)) ρ Q := fun H v w s rv rw K k => by
  cases rv
  cases rw
  exact ⟨i, j, rfl, rfl, c, k H ρ _ (.d x) s (Step.refl _ _) (h _) q⟩
end
end AB
set_option Elab.async false
set_option linter.all false
set_option maxRecDepth 100000
set_option maxHeartbeats 4000000
namespace AB
open PySem PySem.Spec PyProof.Rows L2 Evl
/-! ### statements -/
structure KA where
  nx : Env → Sto → Prop
  rt : QA
  bk : Env → Sto → Prop := fun _ _ => False
  ct : Env → Sto → Prop := fun _ _ => False
def Tn (H : Hp) (ρ : Sto) (q : Env → Sto → Prop) (N : L2.St → Hp → Prop) : Prop := ∀ (H' : Hp) (ρ' : Sto) (σ' : L2.St) (γ' : Env), Sat H' ρ' → Step H ρ H' ρ' → SE H' ρ' σ' γ' → q γ' ρ' → N σ' H'
theorem Tn.step {H H1 : Hp} {ρ ρ1 : Sto} {q : Env → Sto → Prop} {N : L2.St → Hp → Prop} (s : Step H ρ H1 ρ1) (k : Tn H ρ q N) : Tn H1 ρ1 q N := fun H' ρ' v x a b => k H' ρ' v x a (s.trans b)
structure Hk (C : KA) (H : Hp) (ρ : Sto) (D : Ends) : Prop where
  nx : Tn H ρ C.nx D.nx
  rt : Tk H ρ C.rt D.rt
  bk : Tn H ρ C.bk D.bk
  ct : Tn H ρ C.ct D.ct
theorem Hk.step {C : KA} {H H1 : Hp} {ρ ρ1 : Sto} {D : Ends} (s : Step H ρ H1 ρ1) (k : Hk C H ρ D) : Hk C H1 ρ1 D := ⟨k.nx.step s, k.rt.step s, k.bk.step s, k.ct.step s⟩
def WS (ts : TS) (γ : Env) (ρ : Sto) (C : KA) : Prop := ∀ (H : Hp) (σ : L2.St), Sat H ρ → SE H ρ σ γ → ∀ D : Ends, Hk C H ρ D → ts D σ H
def WG (tg : TG) (x : A) (γ : Env) (ρ : Sto) (q : Env → Sto → Prop) : Prop := ∀ (H : Hp) (σ : L2.St) (v : V), Sat H ρ → SE H ρ σ γ → RA H ρ v x → ∀ N : L2.St → Hp → Prop, Tn H ρ q N → tg v σ H N
def WGs (tg : TGs) (xs : List A) (γ : Env) (ρ : Sto) (q : Env → Sto → Prop) : Prop := ∀ (H : Hp) (σ : L2.St) (vs : List V), Sat H ρ → SE H ρ σ γ → RAs H ρ vs xs → ∀ N : L2.St → Hp → Prop, Tn H ρ q N → tg vs σ H N
/-- known less of the slots -/
def Le (γ' γ : Env) : Prop := Paired (fun o o' : Option A => ∀ x, o = some x → o' = some x) γ' γ
theorem se_le {H : Hp} {ρ : Sto} : ∀ {γ' γ : Env} {σ : L2.St}, Le γ' γ → SE H ρ σ γ → SE H ρ σ γ'
  | _, _, _, .nil, .nil => .nil
  | _, _, _, .cons h t, .cons r q => .cons (fun x e => r x (h x e)) (se_le t q)
theorem Le.refl : ∀ γ : Env, Le γ γ
  | [] => .nil
  | _ :: γ => .cons (fun _ h => h) (Le.refl γ)
theorem se_sub {H : Hp} {ρ ρ' : Sto} (s : Sub ρ' ρ) {σ : L2.St} {γ : Env} (h : SE H ρ σ γ) : SE H ρ' σ γ := se_step (Step.sub s) h
section
variable {γ γ' : Env} {ρ ρ' : Sto} {C : KA} {te ta tb : TE} {t : TT} {ts tu tw : TS} {tr : TA} {g : TG} {x : A}
theorem WS.weak (h : WS ts γ' ρ' C) (l : Le γ' γ) (s : Sub ρ' ρ) : WS ts γ ρ C := fun H σ a e D k => h H σ (a.sub s) (se_le l (se_sub s e)) D (k.step (Step.sub s))
theorem ws_seq (h : WS tu γ ρ { C with nx := fun γ1 ρ1 => WS tw γ1 ρ1 C }) : WS (tSeq tu tw) γ ρ C := fun H σ s e D k =>
  h H σ s e _ ⟨fun H' ρ' σ' γ' s' g' e' q => q H' σ' s' e' D (k.step g'), k.rt, k.bk, k.ct⟩
theorem ws_next (q : C.nx γ ρ) : WS tNext γ ρ C := fun H σ s e D k => k.nx H ρ σ γ s (Step.refl _ _) e q
theorem ws_break (q : C.bk γ ρ) : WS tBreak γ ρ C := fun H σ s e D k => k.bk H ρ σ γ s (Step.refl _ _) e q
theorem ws_cont (q : C.ct γ ρ) : WS tCont γ ρ C := fun H σ s e D k => k.ct H ρ σ γ s (Step.refl _ _) e q
theorem ws_if (h : WT t γ ρ fun b ρ1 => (b = true → WS tu γ ρ1 C) ∧ (b = false → WS tw γ ρ1 C)) : WS (tIfS t tu tw) γ ρ C := fun H σ s e D k => h H σ s e _ fun H1 ρ1 b s1 g1 q => by
  cases b with
  | true => exact q.1 rfl H1 σ s1 (se_step g1 e) D (k.step g1)
  | false => exact q.2 rfl H1 σ s1 (se_step g1 e) D (k.step g1)
theorem ws_asg (h : WE te γ ρ fun x ρ1 => WG g x γ ρ1 C.nx) : WS (tAsg te g) γ ρ C := fun H σ s e D k => h H σ s e _ fun H1 ρ1 v x s1 g1 rv q => q H1 σ v s1 (se_step g1 e) rv _ (k.nx.step g1)
theorem ws_drop (h : WE te γ ρ fun _ ρ1 => C.nx γ ρ1) : WS (tDrop te) γ ρ C := fun H σ s e D k => h H σ s e _ fun H1 ρ1 v x s1 g1 rv q => k.nx H1 ρ1 σ γ s1 g1 (se_step g1 e) q
theorem ws_ret (h : WE te γ ρ fun x ρ1 => ∃ ρ2, Sub ρ2 ρ1 ∧ C.rt x ρ2) : WS (tRet te) γ ρ C := fun H σ s e D k => h H σ s e _ fun H1 ρ1 v x s1 g1 rv ⟨ρ2, b, q⟩ =>
  k.rt H1 ρ2 v x (s1.sub b) (g1.trans (Step.sub b)) (rv.step (Step.sub b)) q
theorem ws_retN (h : ∃ ρ2, Sub ρ2 ρ ∧ C.rt (.d .non) ρ2) : WS tRetN γ ρ C := fun H σ s e D k => by
  obtain ⟨ρ2, b, q⟩ := h
  exact k.rt H ρ2 .non (.d .non) (s.sub b) (Step.sub b) .non q
theorem ws_par {i j : Nat} (h : WA tr γ ρ fun xs ρ1 => ∃ x y, xs = [x, y] ∧ C.nx ((γ.set i (some x)).set j (some y)) ρ1) : WS (tPar i j tr) γ ρ C := fun H σ s e D k => h H σ s e _ fun H1 ρ1 vs xs s1 g1 rs ⟨x, y, ex, q⟩ => by
  subst ex
  match vs, rs with
  | [v, w], .cons r1 (.cons r2 .nil) => exact ⟨v, w, rfl, k.nx H1 ρ1 _ _ s1 g1 (se_set (se_set (se_step g1 e) r1 i) r2 j) q⟩
theorem ws_aug {i : Nat} {f : Int → Int → Int} {a : Int} (hx : γ[i]? = some (some (.d (.int a)))) (h : WE te γ ρ fun y ρ1 => ∃ b, y = .d (.int b) ∧ C.nx (γ.set i (some (.d (.int (f a b))))) ρ1) : WS (tAug i te (ipI f)) γ ρ C := fun H σ s e D k => by
  obtain ⟨o, e1, r⟩ := paired_at e hx
  obtain ⟨v, rfl, rv⟩ := r _ rfl
  cases rv
  refine ⟨_, e1, h H σ s e _ fun H1 ρ1 w y s1 g1 rw ⟨b, ey, q⟩ => ?_⟩
  subst ey
  cases rw
  exact ⟨a, b, rfl, rfl, k.nx H1 ρ1 _ _ s1 g1 (se_set (se_step g1 e) (x := .d (.int (f a b))) (.int _) i) q⟩
/-! targets -/
theorem wg_name {i : Nat} {q : Env → Sto → Prop} (h : q (γ.set i (some x)) ρ) : WG (gName i) x γ ρ q := fun H σ v s e r N k => k H ρ _ _ s (Step.refl _ _) (se_set e r i) h
theorem wgs_nil {q : Env → Sto → Prop} (h : q γ ρ) : WGs gNil [] γ ρ q := fun H σ vs s e r N k => by
  cases r
  exact ⟨rfl, k H ρ _ _ s (Step.refl _ _) e h⟩
theorem wgs_cons {us : TGs} {xs : List A} {q : Env → Sto → Prop} (h : WG g x γ ρ fun γ1 ρ1 => WGs us xs γ1 ρ1 q) : WGs (gCons g us) (x :: xs) γ ρ q := fun H σ vs s e r N k => by
  cases r with
  | cons r1 r2 => exact ⟨_, _, rfl, h H σ _ s e r1 _ fun H1 ρ1 σ1 γ1 s1 g1 e1 q1 => q1 H1 σ1 _ s1 e1 (pa_step g1 r2) N (k.step g1)⟩
theorem wg_tup {K : PySem.W.Frag} {us : TGs} {ds : List D} {n : Nat} {q : Env → Sto → Prop} (hn : ds.length = n) (h : WGs us (ds.map .d) γ ρ q) : WG (gTup K n us) (.d (.tup ds)) γ ρ q := fun H σ v s e r N k => by
  cases r with
  | @tup a vs _ e1 n1 r1 => exact ⟨a, vs, rfl, (e1.mono (hf_ex _ _)).sq, by rw [n1, hn], h H σ vs s e (ras_list n1 r1) N k⟩
theorem wg_ptup {K : PySem.W.Frag} {us : TGs} {ds : List D} {n : Nat} {q : Env → Sto → Prop} (hn : ds.length = n) (h : WGs us (ds.map .d) γ ρ q) : WG (gTup K n us) (.d (.ptup ds)) γ ρ q := fun H σ v s e r N k => by
  cases r with
  | @ptup a vs _ e1 n1 r1 => exact ⟨a, vs, rfl, SqT.of (hf_ex _ _ _ _ e1), by rw [n1, hn], h H σ vs s e (ras_list n1 r1) N k⟩
/-! ### calls -/
def spA (F : List A → Sto → QA → Prop) : Sp := fun vs H Q _ => ∃ (ρ : Sto) (xs : List A) (R : QA), Sat H ρ ∧ RAs H ρ vs xs ∧ F xs ρ R ∧ Tk H ρ R Q
theorem we_call {F : List A → Sto → QA → Prop} {E : XK} {Q : QA} (h : WA tr γ ρ fun xs ρ1 => F xs ρ1 Q) : WE (tCall (spA F) [] E tr) γ ρ Q := fun H σ s e K k => h H σ s e _ fun H1 ρ1 vs xs s1 g1 rs q => by
  show spA F (vs ++ []) H1 K E
  rw [List.append_nil]
  exact ⟨ρ1, xs, Q, s1, rs, q, k.step g1⟩
def env0 (n : Nat) (xs : List A) : Env := xs.map some ++ List.replicate (n - xs.length) none
theorem se_nones {H : Hp} {ρ : Sto} : ∀ n : Nat, SE H ρ (List.replicate n none) (List.replicate n none)
  | 0 => .nil
  | n + 1 => .cons (fun x e => by cases e) (se_nones n)
theorem se_some {H : Hp} {ρ : Sto} : ∀ {vs : List V} {xs : List A}, RAs H ρ vs xs → SE H ρ (vs.map some) (xs.map some)
  | _, _, .nil => .nil
  | _, _, .cons r t => .cons (fun x e => by cases e; exact ⟨_, rfl, r⟩) (se_some t)
theorem se_start {H : Hp} {ρ : Sto} {N : List Str} {vs : List V} {xs : List A} (r : RAs H ρ vs xs) : SE H ρ (L2.start N vs) (env0 N.length xs) := by
  unfold L2.start env0
  rw [r.length]
  exact paired_app (se_some r) (se_nones _)
/-- a def's body -/
theorem body_of {F : List A → Sto → QA → Prop} {N : List Str} {vs : List V} {H : Hp} {Q : VK} {E : XK} (h : spA F vs H Q E)
    (b : ∀ (ρ : Sto) (xs : List A) (R : QA), F xs ρ R → WS ts (env0 N.length xs) ρ { nx := fun _ ρ1 => ∃ ρ2, Sub ρ2 ρ1 ∧ R (.d .non) ρ2, rt := R }) : ts { nx := fun _ H' => Q .non H', rt := Q } (L2.start N vs) H := by
  obtain ⟨ρ, xs, R, s, r, f, k⟩ := h
  refine b ρ xs R f H _ s (se_start r) _ ⟨fun H' ρ' σ' γ' s' g' e' ⟨ρ2, sb, q⟩ => ?_, k, fun _ _ _ _ _ _ _ z => z.elim, fun _ _ _ _ _ _ _ z => z.elim⟩
  exact k H' ρ2 .non (.d .non) (s'.sub sb) (g'.trans (Step.sub sb)) .non q
theorem spA_len {F : List A → Sto → QA → Prop} {n : Nat} (hl : ∀ xs ρ R, F xs ρ R → xs.length = n) : ∀ (vs : List V) (H : Hp) (Q : VK) (E : XK), spA F vs H Q E → vs.length = n := fun vs H Q E h => by
  obtain ⟨ρ, xs, R, s, r, f, k⟩ := h
  rw [r.length, hl xs ρ R f]
end
/-! ### loops -/
/-- x is a list, told by data or by the store; a tuple -/
def LsA (x : A) (ρ : Sto) (xs : List A) : Prop := (∃ ds : List D, x = .d (.lst ds) ∧ xs = ds.map .d) ∨ ∃ a, x = .m a ∧ ρ a = some (.lst xs)
theorem LsA.at_ {x : A} {ρ : Sto} {xs : List A} {H : Hp} {v : V} (h : LsA x ρ xs) (s : Sat H ρ) (r : RA H ρ v x) : ∃ p vs, v = .ref p ∧ H p = some (.lst vs) ∧ RAs H ρ vs xs := by
  rcases h with ⟨ds, rfl, rfl⟩ | ⟨a, rfl, e⟩
  · cases r with
    | @lst a vs _ e1 n1 r1 => exact ⟨a, vs, rfl, hf_ex _ _ _ _ e1, ras_list n1 r1⟩
  · obtain ⟨vs, e1, r1⟩ := s a _ e
    exact ⟨a, vs, r, e1, r1⟩
theorem lsd {ds : List D} {ρ : Sto} : LsA (.d (.lst ds)) ρ (ds.map .d) := .inl ⟨ds, rfl, rfl⟩
theorem lsm {a : Addr} {ρ : Sto} {xs : List A} (h : ρ a = some (.lst xs)) : LsA (.m a) ρ xs := .inr ⟨a, rfl, h⟩
theorem tup_at {ds : List D} {ρ : Sto} {H : Hp} {v : V} (r : RA H ρ v (.d (.tup ds))) : ∃ p vs, v = .ref p ∧ Zt H p vs ∧ RAs H ρ vs (ds.map .d) := by
  cases r with
  | @tup a vs _ e1 n1 r1 => exact ⟨a, vs, rfl, e1.mono (hf_ex _ _), ras_list n1 r1⟩
theorem ptup_at {ds : List D} {ρ : Sto} {H : Hp} {v : V} (r : RA H ρ v (.d (.ptup ds))) : ∃ p vs, v = .ref p ∧ H p = some (.tup vs) ∧ RAs H ρ vs (ds.map .d) := by
  cases r with
  | @ptup a vs _ e1 n1 r1 => exact ⟨a, vs, rfl, hf_ex _ _ _ _ e1, ras_list n1 r1⟩
section
variable {γ γ' : Env} {ρ ρ' : Sto} {C : KA} {te ta tb : TE} {t : TT} {ts tu tw : TS} {tr : TA} {g : TG} {x : A} {K : PySem.W.Frag}
/-- the turns' word in the heap -/
def Pv (H0 : Hp) (ρ0 : Sto) (I : Nat → Env → Sto → Prop) (i : Nat) (σ : L2.St) (H : Hp) : Prop := ∃ γ ρ, Sat H ρ ∧ Step H0 ρ0 H ρ ∧ SE H ρ σ γ ∧ I i γ ρ
theorem pv_tn {H0 : Hp} {ρ0 : Sto} {I : Nat → Env → Sto → Prop} {i : Nat} {H : Hp} {ρ : Sto} (s : Step H0 ρ0 H ρ) : Tn H ρ (I i) (Pv H0 ρ0 I i) := fun H' ρ' σ' γ' a b c d => ⟨γ', ρ', a, s.trans b, c, d⟩
/-- an iterator over xs, while G holds of the store -/
structure Itx (J : It) (xs : List A) (G : Sto → Prop) (H0 : Hp) (ρ0 : Sto) : Prop where
  go : ∀ (i : Nat) (H : Hp) (ρ : Sto), i < xs.length → Sat H ρ → Step H0 ρ0 H ρ → G ρ → J.go i H
  yl : ∀ (i : Nat) (H : Hp) (ρ : Sto) (v : V) (H' : Hp), i < xs.length → Sat H ρ → Step H0 ρ0 H ρ → G ρ → J.yld i H v H' → Sat H' ρ ∧ Step H ρ H' ρ ∧ ∃ y, xs[i]? = some y ∧ RA H' ρ v y
  st : ∀ (H : Hp) (ρ : Sto), Sat H ρ → Step H0 ρ0 H ρ → G ρ → J.stop xs.length H
def WI (wi : TI) (γ : Env) (ρ : Sto) (Q : List A → (Sto → Prop) → Sto → Prop) : Prop := ∀ (H : Hp) (σ : L2.St), Sat H ρ → SE H ρ σ γ → ∀ R : It → Hp → Prop,
  (∀ (H' : Hp) (ρ' : Sto) (J : It) (xs : List A) (G : Sto → Prop), Sat H' ρ' → Step H ρ H' ρ' → Itx J xs G H' ρ' → Q xs G ρ' → R J H') → wi σ H R
theorem itx_l {p : Addr} {H : Hp} {ρ : Sto} {x : A} {xs : List A} (rv : RA H ρ (.ref p) x) : Itx (Itl K p) xs (fun ρ' => LsA x ρ' xs) H ρ := by
  refine ⟨fun i H2 ρ2 hi s2 g2 l2 => ?_, fun i H2 ρ2 y H3 hi s2 g2 l2 yl => ?_, fun H2 ρ2 s2 g2 l2 => ?_⟩
  · obtain ⟨p', vs', ep, hp', rs'⟩ := l2.at_ s2 (rv.step g2)
    cases ep
    have hlen := rs'.length
    exact ⟨vs', vs'[i]'(by omega), SqL.of hp', by simp [hlen, hi]⟩
  · obtain ⟨p', vs', ep, hp', rs'⟩ := l2.at_ s2 (rv.step g2)
    cases ep
    obtain ⟨rfl, yl⟩ := yl
    exact ⟨s2, Step.refl _ _, paired_at' rs' (yl vs' (SqL.of hp'))⟩
  · obtain ⟨p', vs', ep, hp', rs'⟩ := l2.at_ s2 (rv.step g2)
    cases ep
    exact ⟨vs', SqL.of hp', Nat.le_of_eq rs'.length⟩
theorem wi_list {Q : List A → (Sto → Prop) → Sto → Prop} (h : WE te γ ρ fun x ρ1 => ∃ xs, LsA x ρ1 xs ∧ Q xs (fun ρ' => LsA x ρ' xs) ρ1) : WI (iList K te) γ ρ Q := fun H σ s e R k => h H σ s e _ fun H1 ρ1 v x s1 g1 rv ⟨xs, l, q⟩ => by
  obtain ⟨p, vs, rfl, hp, rs⟩ := l.at_ s1 rv
  exact ⟨p, rfl, ⟨vs, SqL.of hp⟩, k H1 ρ1 _ xs _ s1 g1 (itx_l rv) q⟩
theorem itx_t {p : Addr} {H : Hp} {ρ : Sto} {ds : List D} (rv : RA H ρ (.ref p) (.d (.tup ds))) : Itx (Itt K p) (ds.map .d) (fun _ => True) H ρ := by
  refine ⟨fun i H2 ρ2 hi s2 g2 l2 => ?_, fun i H2 ρ2 y H3 hi s2 g2 l2 yl => ?_, fun H2 ρ2 s2 g2 l2 => ?_⟩
  · obtain ⟨p', vs', ep, hp', rs'⟩ := tup_at (rv.step g2)
    cases ep
    have hlen := rs'.length
    exact ⟨vs', vs'[i]'(by omega), hp'.sq, by simp [hlen, hi] <;> omega⟩
  · obtain ⟨p', vs', ep, hp', rs'⟩ := tup_at (rv.step g2)
    cases ep
    obtain ⟨rfl, yl⟩ := yl
    exact ⟨s2, Step.refl _ _, paired_at' rs' (yl vs' (hp'.sq))⟩
  · obtain ⟨p', vs', ep, hp', rs'⟩ := tup_at (rv.step g2)
    cases ep
    exact ⟨vs', hp'.sq, Nat.le_of_eq rs'.length⟩
theorem wi_tup {Q : List A → (Sto → Prop) → Sto → Prop} (h : WE te γ ρ fun x ρ1 => ∃ ds, x = .d (.tup ds) ∧ Q (ds.map .d) (fun _ => True) ρ1) : WI (iTup K te) γ ρ Q := fun H σ s e R k => h H σ s e _ fun H1 ρ1 v x s1 g1 rv ⟨ds, ex, q⟩ => by
  subst ex
  obtain ⟨p, vs, rfl, hp, rs⟩ := tup_at rv
  exact ⟨p, rfl, ⟨vs, hp.sq⟩, k H1 ρ1 _ _ _ s1 g1 (itx_t rv) q⟩
/-- the numbers from lo on, n of them -/
def rgA (lo : Int) (n : Nat) : List A := (List.range n).map fun i => .d (.int (lo + (i : Nat)))
theorem rgA_len (lo : Int) (n : Nat) : (rgA lo n).length = n := by simp [rgA]
theorem rgA_at {lo : Int} {n i : Nat} {y : A} (h : (rgA lo n)[i]? = some y) : i < n ∧ y = .d (.int (lo + (i : Nat))) := by
  unfold rgA at h
  rw [List.getElem?_map] at h
  obtain ⟨j, hj, rfl⟩ := Option.map_eq_some_iff.mp h
  obtain ⟨hi, e⟩ := List.getElem?_eq_some_iff.mp hj
  simp at hi e
  subst e
  exact ⟨hi, rfl⟩
theorem itx_r {lo : Int} {n : Nat} {H : Hp} {ρ : Sto} : Itx (Itr lo n) (rgA lo n) (fun _ => True) H ρ := by
  refine ⟨fun i H2 ρ2 hi s2 g2 l2 => by rw [rgA_len] at hi; exact hi, fun i H2 ρ2 y H3 hi s2 g2 l2 yl => ?_, fun H2 ρ2 s2 g2 l2 => by rw [rgA_len]; exact Nat.le_refl _⟩
  obtain ⟨rfl, rfl⟩ := yl
  rw [rgA_len] at hi
  exact ⟨s2, Step.refl _ _, .d (.int (lo + (i : Nat))), by unfold rgA; rw [List.getElem?_map, List.getElem?_range hi]; rfl, Rep.int _⟩
theorem wi_rng1 {Q : List A → (Sto → Prop) → Sto → Prop} (h : WA tr γ ρ fun xs ρ1 => ∃ j : Int, xs = [.d (.int j)] ∧ (-(2 ^ 62) ≤ j ∧ j < 2 ^ 62) ∧ Q (rgA 0 j.toNat) (fun _ => True) ρ1) : WI (iRng1 tr) γ ρ Q := fun H σ s e R k => h H σ s e _ fun H1 ρ1 vs xs s1 g1 rs ⟨j, ex, ⟨h1, h2⟩, q⟩ => by
  subst ex
  match vs, rs with
  | [v], .cons r1 .nil =>
    cases r1
    exact ⟨j, rfl, h1, h2, k H1 ρ1 _ _ _ s1 g1 itx_r q⟩
theorem wi_rng2 {Q : List A → (Sto → Prop) → Sto → Prop} (h : WA tr γ ρ fun xs ρ1 => ∃ i j : Int, xs = [.d (.int i), .d (.int j)] ∧ (-(2 ^ 62) ≤ i ∧ i < 2 ^ 62 ∧ -(2 ^ 62) ≤ j ∧ j < 2 ^ 62) ∧ Q (rgA i (j - i).toNat) (fun _ => True) ρ1) : WI (iRng2 tr) γ ρ Q := fun H σ s e R k => h H σ s e _ fun H1 ρ1 vs xs s1 g1 rs ⟨i, j, ex, hb, q⟩ => by
  subst ex
  match vs, rs with
  | [v, w], .cons r1 (.cons r2 .nil) =>
    cases r1
    cases r2
    exact ⟨i, j, rfl, hb, k H1 ρ1 _ _ _ s1 g1 itx_r q⟩
/-- the keys of a dict that stays -/
def keyD : Key → D
  | .inl i => .int i
  | .inr z => .str z
theorem rep_key {H : Hp} : ∀ k : Key, Rep H (kV k) (keyD k)
  | .inl i => .int i
  | .inr z => .str z
theorem dic_at {ks : List Key} {ds : List D} {ρ : Sto} {H : Hp} {v : V} (r : RA H ρ v (.d (.dic ks ds))) : ∃ p o kvs, v = .ref p ∧ H p = some (.frz o (.dK kvs)) ∧ kvs.map Prod.fst = ks ∧ RAs H ρ (kvs.map Prod.snd) (ds.map .d) := by
  cases r with
  | @dic a o kvs _ _ e1 k1 n1 r1 => exact ⟨a, o, kvs, rfl, hf_ex _ _ _ _ e1, k1, ras_list (by rw [List.length_map, n1]) r1⟩
theorem itx_k {p : Addr} {o : Obj} {kvs : List (Key × V)} {H : Hp} {ρ : Sto} {ks : List Key} (e : (hf ρ H) p = some (.frz o (.dK kvs))) (hk : kvs.map Prod.fst = ks) : Itx (Itk p o kvs) (ks.map fun k => .d (keyD k)) (fun _ => True) H ρ := by
  have hl : (ks.map fun k => A.d (keyD k)).length = kvs.length := by rw [List.length_map, ← hk, List.length_map]
  refine ⟨fun i H2 ρ2 hi s2 g2 l2 => ⟨hf_ex _ _ _ _ (g2 _ _ e), by omega⟩, fun i H2 ρ2 y H3 hi s2 g2 l2 yl => ?_, fun H2 ρ2 s2 g2 l2 => ⟨hf_ex _ _ _ _ (g2 _ _ e), by omega⟩⟩
  obtain ⟨rfl, k, w, ek, rfl⟩ := yl
  refine ⟨s2, Step.refl _ _, .d (keyD k), ?_, rep_key k⟩
  rw [List.getElem?_map, ← hk, List.getElem?_map, ek]
  rfl
theorem wi_keys {Q : List A → (Sto → Prop) → Sto → Prop} (h : WE te γ ρ fun x ρ1 => ∃ ks ds, x = .d (.dic ks ds) ∧ Q (ks.map fun k => .d (keyD k)) (fun _ => True) ρ1) : WI (iKeys te) γ ρ Q := fun H σ s e R k => h H σ s e _ fun H1 ρ1 v x s1 g1 rv ⟨ks, ds, ex, q⟩ => by
  subst ex
  cases rv with
  | @dic a o kvs _ _ e1 k1 n1 r1 => exact ⟨a, o, rfl, .inl ⟨kvs, hf_ex _ _ _ _ e1, k H1 ρ1 _ _ _ s1 g1 (itx_k e1 k1) q⟩⟩
/-- its pairs -/
theorem wi_items {Q : List A → (Sto → Prop) → Sto → Prop} (h : WE te γ ρ fun x ρ1 => ∃ ks ds, x = .d (.dic ks ds) ∧ ks.length = ds.length ∧ Q ((ks.zip ds).map fun p => .d (.ptup [keyD p.1, p.2])) (fun _ => True) ρ1) : WI (iItems te) γ ρ Q := fun H σ s e R k => h H σ s e _ fun H1 ρ1 v x s1 g1 rv ⟨ks, ds, ex, hkd, q⟩ => by
  subst ex
  cases rv with
  | @dic a o kvs _ _ e1 k1 n1 r1 =>
    have hl : ((ks.zip ds).map fun p => A.d (.ptup [keyD p.1, p.2])).length = kvs.length := by rw [List.length_map, List.length_zip, ← hkd, Nat.min_self, ← k1, List.length_map]
    refine ⟨a, o, kvs, rfl, hf_ex _ _ _ _ e1, k H1 ρ1 _ _ (fun _ => True) s1 g1 ⟨fun i H2 ρ2 hi s2 g2 l2 => ⟨hf_ex _ _ _ _ (g2 _ _ e1), by omega⟩, fun i H2 ρ2 y H3 hi s2 g2 l2 yl => ?_, fun H2 ρ2 s2 g2 l2 => ⟨hf_ex _ _ _ _ (g2 _ _ e1), by omega⟩⟩ q⟩
    obtain ⟨T, k', w, ek, rfl, hT, rfl⟩ := yl
    obtain ⟨g3, s3⟩ := s2.new (u := .tup [kV k', w]) hT
    have hi' : i < ds.length := by omega
    obtain ⟨d, ed⟩ : ∃ d, ds[i]? = some d := ⟨ds[i], List.getElem?_eq_getElem hi'⟩
    have ek1 : ks[i]? = some k' := by rw [← k1, List.getElem?_map, ek]; rfl
    refine ⟨s3, g3, .d (.ptup [keyD k', d]), ?_, .ptup (vs := [kV k', w]) (by rw [hf_out (s2.free hT), upd_same]) rfl fun j v2 d2 h1 h2 => ?_⟩
    · rw [List.getElem?_map, (List.getElem?_zip_eq_some (z := (k', d))).mpr ⟨ek1, ed⟩]
      rfl
    · match j, h1, h2 with
      | 0, h1, h2 =>
        cases Option.some.inj h1
        cases Option.some.inj h2
        exact rep_key k'
      | 1, h1, h2 =>
        cases Option.some.inj h1
        cases Option.some.inj h2
        exact (r1 i w d (by rw [List.getElem?_map, ek]; rfl) ed).mono (Ex.trans g2 g3)
      | j + 2, h1, h2 => simp at h1
theorem ws_for {wi : TI} (h : WI wi γ ρ fun xs G ρ1 => ∃ (I : Nat → Env → Sto → Prop), I 0 γ ρ1 ∧ (∀ i γ' ρ', i ≤ xs.length → I i γ' ρ' → G ρ') ∧
      (∀ i y γ' ρ', xs[i]? = some y → I i γ' ρ' → WG g y γ' ρ' fun γ2 ρ2 => WS tu γ2 ρ2 { C with nx := I (i + 1), ct := I (i + 1), bk := C.nx }) ∧ (∀ γ' ρ', I xs.length γ' ρ' → C.nx γ' ρ')) : WS (tFor wi g tu) γ ρ C := fun H σ s e D k =>
  h H σ s e _ fun H1 ρ1 J xs G s1 g1 J1 ⟨I, h0, hG, hs, hd⟩ => by
    refine ⟨fun i m σ' H' => m = xs.length - i ∧ i ≤ xs.length ∧ Pv H1 ρ1 I i σ' H', ⟨xs.length, by simp, Nat.zero_le _, γ, ρ1, s1, Step.refl _ _, se_step g1 e, h0⟩, ?_⟩
    rintro i m σ' H' ⟨rfl, hi, γ2, ρ2, s2, g2, e2, q2⟩
    have hg := hG i γ2 ρ2 hi q2
    by_cases hlt : i < xs.length
    · refine .inr ⟨J1.go i H' ρ2 hlt s2 g2 hg, Pv H1 ρ1 I (i + 1), fun σ3 H3 w => ⟨xs.length - (i + 1), by omega, rfl, hlt, w⟩, fun v H3 yl => ?_⟩
      obtain ⟨s3, g3, y, ey, ry⟩ := J1.yl i H' ρ2 v H3 hlt s2 g2 hg yl
      refine hs i y γ2 ρ2 ey q2 H3 σ' v s3 (se_step g3 e2) ry _ fun H4 ρ4 σ4 γ4 s4 g4 e4 q4 => ?_
      have g := (g2.trans g3).trans g4
      exact q4 H4 σ4 s4 e4 _ ⟨pv_tn g, k.rt.step (g1.trans g), k.nx.step (g1.trans g), pv_tn g⟩
    · have ei : i = xs.length := by omega
      subst ei
      exact .inl ⟨J1.st H' ρ2 s2 g2 hg, k.nx H' ρ2 σ' γ2 s2 (g1.trans g2) e2 (hd γ2 ρ2 q2)⟩
/-- while, by a word that falls -/
theorem ws_while (I : Nat → Env → Sto → Prop) (m0 : Nat) (h0 : I m0 γ ρ) (hs : ∀ m γ' ρ', I m γ' ρ' → WT t γ' ρ' fun b ρ1 => (b = true → WS tu γ' ρ1 { C with nx := fun γ2 ρ2 => ∃ m', m' < m ∧ I m' γ2 ρ2, ct := fun γ2 ρ2 => ∃ m', m' < m ∧ I m' γ2 ρ2, bk := C.nx }) ∧ (b = false → C.nx γ' ρ1)) :
    WS (tWhile t tu) γ ρ C := fun H σ s e D k => by
  refine ⟨fun m σ' H' => Pv H ρ I m σ' H', ⟨m0, γ, ρ, s, Step.refl _ _, e, h0⟩, ?_⟩
  rintro m σ' H' ⟨γ2, ρ2, s2, g2, e2, q2⟩
  refine hs m γ2 ρ2 q2 H' σ' s2 e2 _ fun H1 ρ1 b s1 g1 q1 => ?_
  cases b with
  | true =>
    refine ⟨fun σ3 H3 => ∃ m', m' < m ∧ Pv H ρ I m' σ3 H3, fun _ _ w => w, q1.1 rfl H1 σ' s1 (se_step g1 e2) _ ⟨?_, k.rt.step (g2.trans g1), k.nx.step (g2.trans g1), ?_⟩⟩
    · exact fun H4 ρ4 σ4 γ4 s4 g4 e4 ⟨m', hm, q4⟩ => ⟨m', hm, γ4, ρ4, s4, (g2.trans g1).trans g4, e4, q4⟩
    · exact fun H4 ρ4 σ4 γ4 s4 g4 e4 ⟨m', hm, q4⟩ => ⟨m', hm, γ4, ρ4, s4, (g2.trans g1).trans g4, e4, q4⟩
  | false => exact k.nx H1 ρ1 σ' γ2 s1 (g2.trans g1) (se_step g1 e2) (q1.2 rfl)
end
end AB
set_option Elab.async false
set_option linter.all false
set_option maxRecDepth 100000
set_option maxHeartbeats 4000000
namespace AB
open PySem PySem.Spec PyProof.Rows L2 Evl
/-! ### comprehensions -/
theorem wipe_at (σ : L2.St) : ∀ (vs : List Nat) (i : Nat), (wipe σ vs)[i]? = if i ∈ vs then (σ[i]?).map (fun _ => none) else σ[i]?
  | [], i => by
    rw [if_neg (by simp)]
    rfl
  | v :: vs, i => by
    show ((wipe σ vs).set v none)[i]? = _
    rw [List.getElem?_set, wipe_length, wipe_at σ vs i]
    by_cases e : v = i
    · subst e
      rw [if_pos rfl]
      by_cases h : v < σ.length
      · rw [if_pos h, if_pos List.mem_cons_self, List.getElem?_eq_getElem h]
        rfl
      · rw [if_neg h, if_pos List.mem_cons_self, List.getElem?_eq_none (by omega)]
        rfl
    · rw [if_neg e]
      by_cases m : i ∈ vs
      · rw [if_pos m, if_pos (List.mem_cons_of_mem _ m)]
      · rw [if_neg m, if_neg (fun z => by rcases List.mem_cons.mp z with w | w; exact e w.symm; exact m w)]
theorem wipe_wipe (σ : L2.St) (vs : List Nat) : wipe (wipe σ vs) vs = wipe σ vs := by
  apply List.ext_getElem?
  intro i
  rw [wipe_at, wipe_at]
  by_cases m : i ∈ vs
  · rw [if_pos m, if_pos m]
    cases σ[i]? <;> rfl
  · rw [if_neg m, if_neg m]
theorem wipe_set (σ : L2.St) (vs : List Nat) {j : Nat} (hj : j ∈ vs) (x : Option V) : wipe (σ.set j x) vs = wipe σ vs := by
  apply List.ext_getElem?
  intro i
  rw [wipe_at, wipe_at]
  by_cases m : i ∈ vs
  · rw [if_pos m, if_pos m, List.getElem?_set]
    by_cases e : j = i
    · rw [if_pos e]
      by_cases h : j < σ.length
      · rw [if_pos h, ← e, List.getElem?_eq_getElem h]
        rfl
      · rw [if_neg h, ← e, List.getElem?_eq_none (by omega)]
    · rw [if_neg e]
  · rw [if_neg m, if_neg m, List.getElem?_set, if_neg (fun e => m (by rw [← e]; exact hj))]
def wipeE (γ : Env) : List Nat → Env
  | [] => γ
  | v :: vs => (wipeE γ vs).set v none
theorem se_wipe {H : Hp} {ρ : Sto} {σ : L2.St} {γ : Env} (h : SE H ρ σ γ) : ∀ vs : List Nat, SE H ρ (wipe σ vs) (wipeE γ vs)
  | [] => h
  | v :: vs => paired_set (fun y e => by cases e) (se_wipe h vs) v
def WGv (tg : TG) (vs : List Nat) (x : A) (γ : Env) (ρ : Sto) (q : Env → Sto → Prop) : Prop := ∀ (H : Hp) (σ : L2.St) (v : V), Sat H ρ → SE H ρ σ γ → RA H ρ v x → ∀ N : L2.St → Hp → Prop,
  (∀ (H' : Hp) (ρ' : Sto) (σ' : L2.St) (γ' : Env), Sat H' ρ' → Step H ρ H' ρ' → SE H' ρ' σ' γ' → q γ' ρ' → wipe σ' vs = wipe σ vs → N σ' H') → tg v σ H N
def WGsv (tg : TGs) (vs : List Nat) (xs : List A) (γ : Env) (ρ : Sto) (q : Env → Sto → Prop) : Prop := ∀ (H : Hp) (σ : L2.St) (ws : List V), Sat H ρ → SE H ρ σ γ → RAs H ρ ws xs → ∀ N : L2.St → Hp → Prop,
  (∀ (H' : Hp) (ρ' : Sto) (σ' : L2.St) (γ' : Env), Sat H' ρ' → Step H ρ H' ρ' → SE H' ρ' σ' γ' → q γ' ρ' → wipe σ' vs = wipe σ vs → N σ' H') → tg ws σ H N
section
variable {γ γ' : Env} {ρ ρ' : Sto} {C : KA} {te ta tb : TE} {t tt : TT} {ts tu tw : TS} {tr : TA} {g : TG} {x y : A} {K : PySem.W.Frag} {Q : QA} {vs : List Nat}
theorem wgv_name {i : Nat} {q : Env → Sto → Prop} (hi : i ∈ vs) (h : q (γ.set i (some x)) ρ) : WGv (gName i) vs x γ ρ q := fun H σ v s e r N k => k H ρ _ _ s (Step.refl _ _) (se_set e r i) h (wipe_set σ vs hi _)
theorem wgsv_nil {q : Env → Sto → Prop} (h : q γ ρ) : WGsv gNil vs [] γ ρ q := fun H σ ws s e r N k => by
  cases r
  exact ⟨rfl, k H ρ _ _ s (Step.refl _ _) e h rfl⟩
theorem wgsv_cons {us : TGs} {xs : List A} {q : Env → Sto → Prop} (h : WGv g vs x γ ρ fun γ1 ρ1 => WGsv us vs xs γ1 ρ1 q) : WGsv (gCons g us) vs (x :: xs) γ ρ q := fun H σ ws s e r N k => by
  cases r with
  | cons r1 r2 => exact ⟨_, _, rfl, h H σ _ s e r1 _ fun H1 ρ1 σ1 γ1 s1 g1 e1 q1 w1 => q1 H1 σ1 _ s1 e1 (pa_step g1 r2) N fun H2 ρ2 σ2 γ2 s2 g2 e2 q2 w2 => k H2 ρ2 σ2 γ2 s2 (g1.trans g2) e2 q2 (w2.trans w1)⟩
theorem wgv_tup {us : TGs} {ds : List D} {n : Nat} {q : Env → Sto → Prop} (hn : ds.length = n) (h : WGsv us vs (ds.map .d) γ ρ q) : WGv (gTup K n us) vs (.d (.tup ds)) γ ρ q := fun H σ v s e r N k => by
  cases r with
  | @tup a ws _ e1 n1 r1 => exact ⟨a, ws, rfl, (e1.mono (hf_ex _ _)).sq, by rw [n1, hn], h H σ ws s e (ras_list n1 r1) N k⟩
theorem wgv_ptup {us : TGs} {ds : List D} {n : Nat} {q : Env → Sto → Prop} (hn : ds.length = n) (h : WGsv us vs (ds.map .d) γ ρ q) : WGv (gTup K n us) vs (.d (.ptup ds)) γ ρ q := fun H σ v s e r N k => by
  cases r with
  | @ptup a ws _ e1 n1 r1 => exact ⟨a, ws, rfl, SqT.of (hf_ex _ _ _ _ e1), by rw [n1, hn], h H σ ws s e (ras_list n1 r1) N k⟩
/-- the turns of a comprehension: I by the turn, the list so far (in the store at L) and the store -/
theorem we_lc {wi : TI} (h : WI wi γ ρ fun xs G ρ1 => ∀ L, ρ1 L = none → ∃ (I : Nat → List A → Sto → Prop), I 0 [] (pu ρ1 L (.lst [])) ∧
      (∀ i acc ρ', i ≤ xs.length → I i acc ρ' → G ρ') ∧
      (∀ i y acc ρ', xs[i]? = some y → I i acc ρ' → WGv g vs y (wipeE γ vs) ρ' fun γ2 ρ2 => WT tt γ2 ρ2 fun b ρ3 => (b = true → WE te γ2 ρ3 fun z ρ4 => ∃ acc', ρ4 L = some (.lst acc') ∧ acc'.length < 100000 ∧ I (i + 1) (acc' ++ [z]) (pu ρ4 L (.lst (acc' ++ [z])))) ∧ (b = false → I (i + 1) acc ρ3)) ∧
      (∀ acc ρ', I xs.length acc ρ' → Q (.m L) ρ' ∨ ∃ ds ρ2, ρ' L = some (.lst (ds.map .d)) ∧ ρ2 L = none ∧ Sub ρ2 ρ' ∧ Q (.d (.lst ds)) ρ2)) : WE (tLc wi g tt te vs) γ ρ Q := fun H σ s e Kk k =>
  h H σ s e _ fun H1 ρ1 J xs G s1 g1 J1 w L hL => by
    obtain ⟨I, h0, hG, hs, hd⟩ := w L (s1.free hL)
    obtain ⟨g2, s2⟩ := s1.add (u := .lst []) (o := .lst []) hL fun H' ρ' g e => ⟨[], e, .nil⟩
    refine ⟨fun i m H' => m = xs.length - i ∧ i ≤ xs.length ∧ ∃ ρ' acc, Sat H' ρ' ∧ Step H1 ρ1 H' ρ' ∧ I i acc ρ', ⟨xs.length, by simp, Nat.zero_le _, _, [], s2, g2, h0⟩, ?_⟩
    rintro i m H' ⟨rfl, hi, ρ', acc, s3, g3, q3⟩
    have hg := hG i acc ρ' hi q3
    by_cases hlt : i < xs.length
    · refine .inr ⟨J1.go i H' ρ' hlt s3 g3 hg, fun H4 => ∃ ρ4 acc, Sat H4 ρ4 ∧ Step H1 ρ1 H4 ρ4 ∧ I (i + 1) acc ρ4, fun H4 w => ⟨xs.length - (i + 1), by omega, rfl, hlt, w⟩, fun v H4 yl => ?_⟩
      obtain ⟨s4, g4, y, ey, ry⟩ := J1.yl i H' ρ' v H4 hlt s3 g3 hg yl
      refine hs i y acc ρ' ey q3 H4 (wipe σ vs) v s4 (se_wipe (se_step ((g1.trans g3).trans g4) e) vs) ry _ fun H5 ρ5 σ5 γ5 s5 g5 e5 q5 w5 => ⟨w5.trans (wipe_wipe σ vs), ?_⟩
      refine q5 H5 σ5 s5 e5 _ fun H6 ρ6 b s6 g6 q6 => ?_
      have gg := ((g3.trans g4).trans g5).trans g6
      cases b with
      | false => exact ⟨ρ6, acc, s6, gg, q6.2 rfl⟩
      | true =>
        refine q6.1 rfl H6 σ5 s6 (se_step g6 e5) _ fun H7 ρ7 u z s7 g7 r7 ⟨acc', e7, hz, q7⟩ => ?_
        obtain ⟨vs', ev, rv⟩ := s7 L _ e7
        obtain ⟨g8, s8⟩ := s7.put (u := .lst (vs' ++ [u])) (o := .lst (acc' ++ [z])) e7 fun H' ρ' g e => ⟨_, e, paired_app (pa_step g rv) (.cons (r7.step g) .nil)⟩
        exact ⟨vs', ev, sz_lt (by rw [rv.length]; exact hz), _, _, s8, (gg.trans g7).trans g8, q7⟩
    · have ei : i = xs.length := by omega
      subst ei
      refine .inl ⟨J1.st H' ρ' s3 g3 hg, ?_⟩
      rcases hd acc ρ' q3 with q | ⟨ds, ρ2, el, en, sb, q⟩
      · exact k H' ρ' (.ref L) (.m L) s3 (g1.trans g3) rfl q
      · obtain ⟨ws, ew, rw⟩ := s3 L _ el
        have s5 := Step.sub (H := H') sb
        obtain ⟨n, r⟩ := rep_list rw
        exact k H' ρ2 (.ref L) (.d (.lst ds)) (s3.sub sb) ((g1.trans g3).trans s5) (.lst (by rw [hf_out en]; exact ew) n fun i v d e1 e2 => (r i v d e1 e2).mono s5) q
/-- one that leaves the store as it is: each turn gives (f i) or nothing -/
theorem we_lcD {wi : TI} (h : WI wi γ ρ fun xs G ρ1 => ∃ f : Nat → Option D, (∀ ρx, Sub ρ1 ρx → G ρx) ∧ xs.length ≤ 50000 ∧
      (∀ i y ρx, xs[i]? = some y → Sub ρ1 ρx → WGv g vs y (wipeE γ vs) ρx fun γ2 ρ2 => ρ2 = ρx ∧ WT tt γ2 ρx fun b ρ3 => ρ3 = ρx ∧ (b = true → WE te γ2 ρx fun z ρ4 => ρ4 = ρx ∧ ∃ d, z = .d d ∧ f i = some d) ∧ (b = false → f i = none)) ∧
      Q (.d (.lst ((List.range xs.length).filterMap f))) ρ1) : WE (tLc wi g tt te vs) γ ρ Q := we_lc fun H σ s e R k => h H σ s e R fun H' ρ' J xs G s' g' J' ⟨f, hG, hz, ht, q⟩ => k H' ρ' J xs G s' g' J' fun L hL => by
  refine ⟨fun i acc ρx => i ≤ xs.length ∧ acc = ((List.range i).filterMap f).map .d ∧ ρx = pu ρ' L (.lst acc), ⟨Nat.zero_le _, rfl, rfl⟩, ?_, ?_, ?_⟩
  · rintro i acc ρx hi ⟨_, _, rfl⟩
    exact hG _ ((Sub.refl _).new hL)
  · rintro i y acc ρx ey ⟨hi, ea, rfl⟩ H4 σ4 v s4 e4 r4 N k4
    have hlt : i < xs.length := (List.getElem?_eq_some_iff.mp ey).1
    have hacc : acc.length < 100000 := by
      rw [ea, List.length_map]
      have := List.length_filterMap_le f (List.range i)
      rw [List.length_range] at this
      omega
    refine ht i y _ ey ((Sub.refl _).new hL) H4 σ4 v s4 e4 r4 N fun H5 ρ5 σ5 γ5 s5 g5 e5 ⟨z5, q5⟩ w5 => k4 H5 ρ5 σ5 γ5 s5 g5 e5 ?_ w5
    subst z5
    refine WT.mono q5 fun b ρ6 ⟨z6, h1, h2⟩ => ?_
    subst z6
    refine ⟨fun hb => WE.mono (h1 hb) fun z ρ7 ⟨z7, d, ez, fd⟩ => ?_, fun hb => ⟨hlt, ?_, rfl⟩⟩
    · subst z7 ez
      refine ⟨acc, pu_same, hacc, hlt, ?_, pu_pu⟩
      rw [ea, List.range_succ, List.filterMap_append, List.map_append]
      simp [fd]
    · rw [ea, List.range_succ, List.filterMap_append, List.map_append]
      simp [h2 hb]
  · rintro acc ρx ⟨_, ea, rfl⟩
    refine .inr ⟨(List.range xs.length).filterMap f, ρ', by rw [pu_same, ea], hL, (Sub.refl _).new hL, q⟩
end
end AB
set_option Elab.async false
set_option linter.all false
set_option maxRecDepth 100000
set_option maxHeartbeats 4000000
namespace AB
open PySem PySem.Spec PyProof.Rows L2 Evl
/-! ### operations on data and the store -/
section
variable {γ γ' : Env} {ρ ρ' : Sto} {C : KA} {te ta tb td ty tv tx : TE} {t tt : TT} {ts tu tw : TS} {tr : TA} {g : TG} {x y : A} {K : PySem.W.Frag} {Q : QA}
/-! == and != of ints, of texts -/
theorem o2_eqI {i j : Int} (q : Q (.d (.bl (decide (i = j)))) ρ) : O2 rEq (.d (.int i)) (.d (.int j)) ρ Q := fun H v w s rv rw K k => by
  cases rv
  cases rw
  refine ⟨rfl, k H ρ _ (.d (.bl (decide (i = j)))) s (Step.refl _ _) ?_ q⟩
  have e : decide (V.int i = V.int j) = decide (i = j) := decide_eq_decide.mpr ⟨fun z => V.int.inj z, fun z => by rw [z]⟩
  rw [e]
  exact Rep.bl _
theorem o2_neI {i j : Int} (q : Q (.d (.bl (!decide (i = j)))) ρ) : O2 rNe (.d (.int i)) (.d (.int j)) ρ Q := fun H v w s rv rw K k => by
  cases rv
  cases rw
  refine ⟨rfl, k H ρ _ (.d (.bl (!decide (i = j)))) s (Step.refl _ _) ?_ q⟩
  have e : decide (V.int i = V.int j) = decide (i = j) := decide_eq_decide.mpr ⟨fun z => V.int.inj z, fun z => by rw [z]⟩
  rw [e]
  exact Rep.bl _
theorem o2_eqS {i j : Str} (q : Q (.d (.bl (decide (i = j)))) ρ) : O2 rEq (.d (.str i)) (.d (.str j)) ρ Q := fun H v w s rv rw K k => by
  cases rv
  cases rw
  refine ⟨rfl, k H ρ _ (.d (.bl (decide (i = j)))) s (Step.refl _ _) ?_ q⟩
  have e : decide (V.str i = V.str j) = decide (i = j) := decide_eq_decide.mpr ⟨fun z => V.str.inj z, fun z => by rw [z]⟩
  rw [e]
  exact Rep.bl _
theorem o2_neS {i j : Str} (q : Q (.d (.bl (!decide (i = j)))) ρ) : O2 rNe (.d (.str i)) (.d (.str j)) ρ Q := fun H v w s rv rw K k => by
  cases rv
  cases rw
  refine ⟨rfl, k H ρ _ (.d (.bl (!decide (i = j)))) s (Step.refl _ _) ?_ q⟩
  have e : decide (V.str i = V.str j) = decide (i = j) := decide_eq_decide.mpr ⟨fun z => V.str.inj z, fun z => by rw [z]⟩
  rw [e]
  exact Rep.bl _
/-- texts: some operation told by two texts -/
theorem o2_SS {r : R2} {i j : Str} {z : D} (h : ∀ H (K : VK) u, Rep H u z → True) (q : Q (.d z) ρ) (hr : ∀ (H : Hp) (K : VK), (∀ u, (∀ H', Rep H' u z) → K u H) → r (.str i) (.str j) H K) : O2 r (.d (.str i)) (.d (.str j)) ρ Q := fun H v w s rv rw K k => by
  cases rv
  cases rw
  exact hr H K fun u ru => k H ρ u (.d z) s (Step.refl _ _) (ru _) q
/-! items -/
theorem atI_pair {α β : Type} {F : α → β → Prop} {vs : List α} {xs : List β} (h : Paired F vs xs) {i : Int} {y : β} (e : atI xs i = some y) : ∃ v, atI vs i = some v ∧ F v y := by
  unfold atI at e ⊢
  rw [h.length]
  obtain ⟨j, e1, e2⟩ := Option.bind_eq_some_iff.mp e
  obtain ⟨v, e3, r⟩ := paired_at h e2
  exact ⟨v, by rw [e1]; exact e3, r⟩
theorem o2_ixL {xs : List A} {i : Int} {z : A} (l : LsA x ρ xs) (e : atI xs i = some z) (q : Q z ρ) : O2 (rIxL K) x (.d (.int i)) ρ Q := fun H v w s rv rw Kk k => by
  cases rw
  obtain ⟨p, vs, rfl, hp, rs⟩ := l.at_ s rv
  obtain ⟨u, eu, ru⟩ := atI_pair rs e
  exact ⟨p, vs, i, u, rfl, rfl, SqL.of hp, eu, k H ρ u z s (Step.refl _ _) ru q⟩
theorem o2_ixT {ds : List D} {i : Int} {z : D} (e : atI ds i = some z) (q : Q (.d z) ρ) : O2 (rIxT K) (.d (.tup ds)) (.d (.int i)) ρ Q := fun H v w s rv rw Kk k => by
  cases rw
  obtain ⟨p, vs, rfl, hp, rs⟩ := tup_at rv
  have e' : atI (ds.map A.d) i = some (.d z) := by
    unfold atI at e ⊢
    rw [List.length_map]
    obtain ⟨j, e1, e2⟩ := Option.bind_eq_some_iff.mp e
    rw [e1]
    show (ds.map A.d)[j]? = _
    rw [List.getElem?_map, e2]
    rfl
  obtain ⟨u, eu, ru⟩ := atI_pair rs e'
  exact ⟨p, vs, i, u, rfl, rfl, hp.sq, eu, k H ρ u (.d z) s (Step.refl _ _) ru q⟩
theorem o2_ixS {z : Str} {i : Int} {c : Nat} (hz : z.length ≤ 1000000) (e : atI z.cps.toList i = some c) (q : Q (.d (.str ⟨#[c]⟩)) ρ) : O2 rIxS (.d (.str z)) (.d (.int i)) ρ Q := fun H v w s rv rw Kk k => by
  cases rv
  cases rw
  exact ⟨z, i, c, rfl, rfl, by rw [sizeLine_eq]; omega, e, k H ρ _ (.d (.str ⟨#[c]⟩)) s (Step.refl _ _) (Rep.str _) q⟩
/-! in, of flat data -/
def flatD : D → Bool
  | .non => true
  | .bl _ => true
  | .int _ => true
  | .str _ => true
  | _ => false
def eqD : D → D → Bool
  | .non, .non => true
  | .bl a, .bl b => a == b
  | .bl a, .int b => (if a then 1 else 0) == b
  | .int a, .bl b => a == (if b then 1 else 0)
  | .int a, .int b => a == b
  | .str a, .str b => a == b
  | _, _ => false
def inD (x : D) (ds : List D) : Bool := ds.any fun y => eqD y x
theorem flat_v {H : Hp} {v : V} {d : D} (r : Rep H v d) (h : flatD d = true) : flatV v = true := by
  cases r <;> first | rfl | cases h
theorem eq_v {H H' : Hp} {v w : V} {d e : D} (r : Rep H v d) (r' : Rep H' w e) (h : flatD d = true) (h' : flatD e = true) : eqV v w = eqD d e := by
  cases r <;> cases r' <;> first | rfl | cases h | cases h'
theorem in_v {H : Hp} {ρ : Sto} {w : V} {d : D} (rw : Rep (hf ρ H) w d) (h : flatD d = true) : ∀ {vs : List V} {ds : List D}, RAs H ρ vs (ds.map .d) → ds.all flatD = true → vs.all flatV = true ∧ inV w vs = inD d ds
  | [], [], _, _ => ⟨rfl, rfl⟩
  | v :: vs, e :: ds, r, ha => by
    cases r with
    | cons r1 r2 =>
      rw [List.all_cons, Bool.and_eq_true] at ha
      obtain ⟨h1, h2⟩ := in_v rw h r2 ha.2
      refine ⟨by rw [List.all_cons, flat_v r1 ha.1, h1]; rfl, ?_⟩
      unfold inV inD at h2 ⊢
      rw [List.any_cons, List.any_cons, h2, eq_v r1 rw ha.1 h]
  | [], _ :: _, r, _ => by cases r
  | _ :: _, [], r, _ => by cases r
theorem o2_in {neg : Bool} {d : D} {ds : List D} (l : LsA y ρ (ds.map .d) ∨ y = .d (.tup ds)) (h : flatD d = true) (ha : ds.all flatD = true) (q : Q (.d (.bl (if neg then !inD d ds else inD d ds))) ρ) : O2 (rIn K neg) (.d d) y ρ Q := fun H v w s rv rw Kk k => by
  rcases l with l | rfl
  · obtain ⟨p, vs, rfl, hp, rs⟩ := l.at_ s rw
    obtain ⟨h1, h2⟩ := in_v rv h rs ha
    refine ⟨p, vs, rfl, .inl (SqL.of hp), flat_v rv h, h1, ?_⟩
    rw [h2]
    exact k H ρ _ (.d (.bl _)) s (Step.refl _ _) (Rep.bl _) q
  · obtain ⟨p, vs, rfl, hp, rs⟩ := tup_at rw
    obtain ⟨h1, h2⟩ := in_v rv h rs ha
    refine ⟨p, vs, rfl, .inr (hp.sq), flat_v rv h, h1, ?_⟩
    rw [h2]
    exact k H ρ _ (.d (.bl _)) s (Step.refl _ _) (Rep.bl _) q
/-! + of tuples, of lists (a new one, told as data) -/
theorem map_app (ds es : List D) : ds.map A.d ++ es.map A.d = (ds ++ es).map A.d := by rw [List.map_append]
theorem tk_same {H : Hp} {K : VK} (k : Tk H ρ Q K) (s : Sat H ρ) {v : V} (r : RA H ρ v x) (q : Q x ρ) : K v H := k H ρ v x s (Step.refl _ _) r q
theorem o2_catL {xs ys : List D} (l : LsA x ρ (xs.map .d)) (l' : LsA y ρ (ys.map .d)) (hz : xs.length + ys.length ≤ 100000) (q : Q (.d (.lst (xs ++ ys))) ρ) : O2 rCat x y ρ Q := fun H v w s rv rw Kk k => by
  obtain ⟨p, vs, rfl, hp, rs⟩ := l.at_ s rv
  obtain ⟨p', ws, rfl, hp', rs'⟩ := l'.at_ s rw
  have e1 := rs.length
  have e2 := rs'.length
  rw [List.length_map] at e1 e2
  refine ⟨p, p', vs, ws, rfl, rfl, hp, hp', sz_of (by omega), fun a ha => ?_⟩
  exact tk_lst s (by rw [← map_app]; exact paired_app rs rs') k q ha
/-! slices -/
def WO (to : TO) (γ : Env) (ρ : Sto) (Q : Option Int → Sto → Prop) : Prop := ∀ (H : Hp) (σ : L2.St), Sat H ρ → SE H ρ σ γ → ∀ K : Option Int → Hp → Prop, (∀ (H' : Hp) (ρ' : Sto) (o : Option Int), Sat H' ρ' → Step H ρ H' ρ' → Q o ρ' → K o H') → to σ H K
theorem wo_none {Q : Option Int → Sto → Prop} (q : Q none ρ) : WO tNoPart γ ρ Q := fun H σ s e K k => k H ρ none s (Step.refl _ _) q
theorem wo_some {Q : Option Int → Sto → Prop} (h : WE te γ ρ fun x ρ1 => ∃ i, x = .d (.int i) ∧ Q (some i) ρ1) : WO (tPart te) γ ρ Q := fun H σ s e K k => h H σ s e _ fun H1 ρ1 v x s1 g1 rv ⟨i, ex, q⟩ => by
  subst ex
  cases rv
  exact ⟨i, rfl, k H1 ρ1 _ s1 g1 q⟩
def O3 (r : V → Option Int → Option Int → Hp → VK → Prop) (x : A) (lo hi : Option Int) (ρ : Sto) (Q : QA) : Prop := ∀ (H : Hp) (v : V), Sat H ρ → RA H ρ v x → ∀ K : VK, Tk H ρ Q K → r v lo hi H K
theorem we_sl {r : V → Option Int → Option Int → Hp → VK → Prop} {tl th : TO} (h : WE te γ ρ fun x ρ1 => WO tl γ ρ1 fun lo ρ2 => WO th γ ρ2 fun hi ρ3 => O3 r x lo hi ρ3 Q) : WE (tSl r te tl th) γ ρ Q := fun H σ s e K k =>
  h H σ s e _ fun H1 ρ1 v x s1 g1 rv q1 => q1 H1 σ s1 (se_step g1 e) _ fun H2 ρ2 lo s2 g2 q2 => q2 H2 σ s2 (se_step (g1.trans g2) e) _ fun H3 ρ3 hi s3 g3 q3 => q3 H3 v s3 (rv.step (g2.trans g3)) K (k.step ((g1.trans g2).trans g3))
def cutD (xs : List D) (lo hi : Option Int) : List D := (xs.drop (HT.sIx xs.length 0 lo)).take (HT.sIx xs.length xs.length hi - HT.sIx xs.length 0 lo)
theorem paired_drop {α β : Type} {F : α → β → Prop} : ∀ {l₁ : List α} {l₂ : List β}, Paired F l₁ l₂ → ∀ n, Paired F (l₁.drop n) (l₂.drop n)
  | _, _, .nil, n => by simp; exact .nil
  | _, _, .cons h t, 0 => .cons h t
  | _, _, .cons h t, n + 1 => paired_drop t n
theorem paired_take {α β : Type} {F : α → β → Prop} : ∀ {l₁ : List α} {l₂ : List β}, Paired F l₁ l₂ → ∀ n, Paired F (l₁.take n) (l₂.take n)
  | _, _, .nil, n => by simp; exact .nil
  | _, _, .cons h t, 0 => .nil
  | _, _, .cons h t, n + 1 => .cons h (paired_take t n)
theorem cut_pair {H : Hp} {vs : List V} {ds : List D} (rs : RAs H ρ vs (ds.map .d)) (lo hi : Option Int) : RAs H ρ (cutV vs lo hi) ((cutD ds lo hi).map .d) := by
  unfold cutV cutD
  have e := rs.length
  rw [List.length_map] at e
  rw [e, List.map_take, List.map_drop]
  exact paired_take (paired_drop rs _) _
theorem o3_lst {ds : List D} {lo hi : Option Int} (l : LsA x ρ (ds.map .d)) (q : Q (.d (.lst (cutD ds lo hi))) ρ) : O3 (rSlL K) x lo hi ρ Q := fun H v s rv Kk k => by
  obtain ⟨p, vs, rfl, hp, rs⟩ := l.at_ s rv
  exact ⟨p, vs, rfl, SqL.of hp, fun a ha => tk_lst s (cut_pair rs lo hi) k q ha⟩
theorem o3_tup {ds : List D} {lo hi : Option Int} (q : Q (.d (.tup (cutD ds lo hi))) ρ) : O3 (rSlZ K) (.d (.tup ds)) lo hi ρ Q := fun H v s rv Kk k => by
  have rv' := rv
  obtain ⟨p, vs, rfl, hp, rs⟩ := tup_at rv
  refine ⟨p, vs, rfl, hp.sq, fun c => ?_, fun _ a od hd ha => tk_tup s (cut_pair rs lo hi) k q hd ha⟩
  have e := rs.length
  rw [List.length_map] at e
  have z : cutD ds lo hi = ds := by
    unfold cutD
    rw [← e, c.1, c.2, List.drop_zero, e, Nat.sub_zero, List.take_length]
  rw [z] at q
  exact tk_same k s rv' q
/-! len, tuple, list -/
theorem on_len {xs : List A} (l : LsA x ρ xs) (q : Q (.d (.int xs.length)) ρ) : ON (fun xs H Q => ∃ p ys, xs = [.ref p] ∧ (SqL K H p ys ∨ SqT K H p ys) ∧ Q (.int ys.length) H) [x] ρ Q := fun H vs s rs Kk k => by
  match vs, rs with
  | [v], .cons r .nil =>
    obtain ⟨p, ws, rfl, hp, rs⟩ := l.at_ s r
    exact ⟨p, ws, rfl, .inl (SqL.of hp), by rw [rs.length]; exact tk_same k s (x := .d (.int xs.length)) (Rep.int _) q⟩
theorem on_lenT {ds : List D} (q : Q (.d (.int ds.length)) ρ) : ON (fun xs H Q => ∃ p ys, xs = [.ref p] ∧ (SqL K H p ys ∨ SqT K H p ys) ∧ Q (.int ys.length) H) [.d (.tup ds)] ρ Q := fun H vs s rs Kk k => by
  match vs, rs with
  | [v], .cons r .nil =>
    obtain ⟨p, ws, rfl, hp, rs⟩ := tup_at r
    exact ⟨p, ws, rfl, .inr (hp.sq), by rw [rs.length, List.length_map]; exact tk_same k s (x := .d (.int ds.length)) (Rep.int _) q⟩
theorem on_tuple {ds : List D} (l : LsA x ρ (ds.map .d)) (q : Q (.d (.tup ds)) ρ) : ON (fun xs H Q => ∃ p ys, xs = [.ref p] ∧ ((SqL K H p ys ∧ NewZ H ys Q) ∨ (SqT K H p ys ∧ Q (.ref p) H))) [x] ρ Q := fun H vs s rs Kk k => by
  match vs, rs with
  | [v], .cons r .nil =>
    obtain ⟨p, ws, rfl, hp, rs⟩ := l.at_ s r
    exact ⟨p, ws, rfl, .inl ⟨SqL.of hp, fun a od hd ha => tk_tup s rs k q hd ha⟩⟩
theorem on_tupleT {ds : List D} (q : Q (.d (.tup ds)) ρ) : ON (fun xs H Q => ∃ p ys, xs = [.ref p] ∧ ((SqL K H p ys ∧ NewZ H ys Q) ∨ (SqT K H p ys ∧ Q (.ref p) H))) [.d (.tup ds)] ρ Q := fun H vs s rs Kk k => by
  match vs, rs with
  | [v], .cons r .nil =>
    have r' := r
    obtain ⟨p, ws, rfl, hp, rs⟩ := tup_at r
    exact ⟨p, ws, rfl, .inr ⟨hp.sq, tk_same k s r' q⟩⟩
theorem bls_v {H : Hp} : ∀ {ws : List V} {bs : List Bool}, RAs H ρ ws ((bs.map D.bl).map .d) → ws = bs.map V.bl
  | [], [], _ => rfl
  | w :: ws, b :: bs, r => by
    cases r with
    | cons r1 r2 =>
      cases r1
      rw [bls_v r2]
      rfl
  | [], _ :: _, r => by cases r
  | _ :: _, [], r => by cases r
theorem on_any {bs : List Bool} (l : LsA x ρ ((bs.map D.bl).map .d)) (q : Q (.d (.bl (bs.any id))) ρ) : ON (rAny K) [x] ρ Q := fun H vs s rs Kk k => by
  match vs, rs with
  | [v], .cons r .nil =>
    obtain ⟨p, ws, rfl, hp, rs⟩ := l.at_ s r
    have e := bls_v rs
    subst e
    exact ⟨p, bs, rfl, SqL.of hp, tk_same k s (x := .d (.bl _)) (Rep.bl _) q⟩
theorem on_all {bs : List Bool} (l : LsA x ρ ((bs.map D.bl).map .d)) (q : Q (.d (.bl (bs.all id))) ρ) : ON (rAll K) [x] ρ Q := fun H vs s rs Kk k => by
  match vs, rs with
  | [v], .cons r .nil =>
    obtain ⟨p, ws, rfl, hp, rs⟩ := l.at_ s r
    have e := bls_v rs
    subst e
    exact ⟨p, bs, rfl, SqL.of hp, tk_same k s (x := .d (.bl _)) (Rep.bl _) q⟩
/-! methods of a list of the store -/
theorem we_bm {T : String} {r : V → List V → Hp → VK → Prop} (h : WE ta γ ρ fun x ρ1 => (∀ H v, Sat H ρ1 → RA H ρ1 v x → tyV K T v H) ∧ WA tr γ ρ1 fun xs ρ2 => ON (fun vs H Q => ∃ v ws, vs = v :: ws ∧ r v ws H Q) (x :: xs) ρ2 Q) : WE (tBM K T r ta tr) γ ρ Q := fun H σ s e Kk k =>
  h H σ s e _ fun H1 ρ1 v x s1 g1 rv ⟨ty, q1⟩ => ⟨ty H1 v s1 rv, q1 H1 σ s1 (se_step g1 e) _ fun H2 ρ2 vs xs s2 g2 rs q2 => by
    obtain ⟨v', ws, e, z⟩ := q2 H2 (v :: vs) s2 (.cons (rv.step g2) rs) Kk (k.step (g1.trans g2))
    cases e
    exact z⟩
theorem we_bm0 {T : String} {r : V → List V → Hp → VK → Prop} (h : WE ta γ ρ fun x ρ1 => (∀ H v, Sat H ρ1 → RA H ρ1 v x → tyV K T v H) ∧ ON (fun vs H Q => ∃ v ws, vs = v :: ws ∧ r v ws H Q) [x] ρ1 Q) : WE (tBM0 K T r ta) γ ρ Q := fun H σ s e Kk k =>
  h H σ s e _ fun H1 ρ1 v x s1 g1 rv ⟨ty, q1⟩ => ⟨ty H1 v s1 rv, by
    obtain ⟨v', ws, e, z⟩ := q1 H1 [v] s1 (.cons rv .nil) Kk (k.step g1)
    cases e
    exact z⟩
theorem ty_lst {a : Addr} {xs : List A} (h : ρ a = some (.lst xs)) : ∀ H v, Sat H ρ → RA H ρ v (.m a) → tyV K "list" v H := fun H v s r => by
  obtain ⟨vs, e, _⟩ := s a _ h
  rw [show v = .ref a from r]
  exact .inl ⟨rfl, vs, SqL.of e⟩
theorem on_append {a : Addr} {xs : List A} (h : ρ a = some (.lst xs)) (hz : xs.length < 100000) (q : Q (.d .non) (pu ρ a (.lst (xs ++ [y])))) : ON (fun vs H Q => ∃ v ws, vs = v :: ws ∧ rAppend v ws H Q) [.m a, y] ρ Q := fun H vs s rs Kk k => by
  match vs, rs with
  | [v, w], .cons r (.cons r2 .nil) =>
    obtain ⟨us, e, ru⟩ := s a _ h
    cases (show v = .ref a from r)
    obtain ⟨g8, s8⟩ := s.put (u := .lst (us ++ [w])) (o := .lst (xs ++ [y])) h fun H' ρ' g e => ⟨_, e, paired_app (pa_step g ru) (.cons (r2.step g) .nil)⟩
    exact ⟨_, _, rfl, a, us, w, rfl, rfl, e, sz_lt (by rw [ru.length]; exact hz), k _ _ .non (.d .non) s8 g8 .non q⟩
theorem on_pop {a : Addr} {xs : List A} {z : A} (h : ρ a = some (.lst (xs ++ [z]))) (q : Q z (pu ρ a (.lst xs))) : ON (fun vs H Q => ∃ v ws, vs = v :: ws ∧ rPop v ws H Q) [.m a] ρ Q := fun H vs s rs Kk k => by
  match vs, rs with
  | [v], .cons r .nil =>
    obtain ⟨us, e, ru⟩ := s a _ h
    cases (show v = .ref a from r)
    have hl := ru.length
    rw [List.length_append] at hl
    have hz : (xs ++ [z])[us.length - 1]? = some z := by
      rw [List.getElem?_append_right (by simp at hl; omega)]
      have : us.length - 1 - xs.length = 0 := by simp at hl; omega
      rw [this]
      rfl
    obtain ⟨w, ew, rw⟩ := paired_at ru hz
    have hd : us.dropLast = us.take xs.length := by
      rw [List.dropLast_eq_take]
      congr 1
      simp at hl
      omega
    have hp : RAs H ρ (us.dropLast) xs := by
      rw [hd]
      have := paired_take ru xs.length
      rw [List.take_left'] at this
      · exact this
      · rfl
    obtain ⟨g8, s8⟩ := s.put (u := .lst us.dropLast) (o := .lst xs) h fun H' ρ' g e => ⟨_, e, pa_step g hp⟩
    exact ⟨_, _, rfl, a, us, w, rfl, rfl, e, ew, k _ _ w z s8 g8 (rw.step g8) q⟩
end
end AB
set_option Elab.async false
set_option linter.all false
set_option maxRecDepth 100000
set_option maxHeartbeats 4000000
namespace AB
open PySem PySem.Spec PyProof.Rows L2 Evl
/-! ### dicts -/
section
variable {κ α : Type} [DecidableEq κ]
def valA (kvs : List (κ × α)) (k : κ) : Option α := (kvs.find? fun kv => decide (kv.1 = k)).map (·.2)
def putA (kvs : List (κ × α)) (k : κ) (v : α) : List (κ × α) :=
  if (kvs.any fun kv => decide (kv.1 = k)) = true then kvs.map (fun kv => if kv.1 = k then (kv.1, v) else kv) else kvs ++ [(k, v)]
theorem valA_pos {p : κ × α} {r : List (κ × α)} {k : κ} (e : p.1 = k) : valA (p :: r) k = some p.2 := by simp [valA, List.find?_cons, e]
theorem valA_neg {p : κ × α} {r : List (κ × α)} {k : κ} (e : ¬ p.1 = k) : valA (p :: r) k = valA r k := by simp [valA, List.find?_cons, e]
/-- what is told of o' by o -/
def OR (R : V → α → Prop) (o : Option α) (o' : Option V) : Prop := (∀ z, o = some z → ∃ u, o' = some u ∧ R u z) ∧ (o = none → o' = none)
theorem or_val {R : V → α → Prop} {k : κ} : ∀ {ws : List (κ × V)} {kvs : List (κ × α)}, Paired (fun p q => p.1 = q.1 ∧ R p.2 q.2) ws kvs → OR R (valA kvs k) (valV ws k)
  | _, _, .nil => ⟨fun z e => by simp [valA] at e, fun _ => rfl⟩
  | _, _, .cons (a := p) (b := q) ⟨h1, h2⟩ t => by
    by_cases e : q.1 = k
    · rw [valA_pos e, valV_pos (h1.trans e)]
      exact ⟨fun z ez => ⟨_, rfl, by cases ez; exact h2⟩, fun ez => by cases ez⟩
    · rw [valA_neg e, valV_neg (fun z => e (h1 ▸ z))]
      exact or_val t
theorem paired_put {R : V → α → Prop} {k : κ} {v : V} {z : α} (r : R v z) {ws : List (κ × V)} {kvs : List (κ × α)} (h : Paired (fun p q => p.1 = q.1 ∧ R p.2 q.2) ws kvs) : Paired (fun p q => p.1 = q.1 ∧ R p.2 q.2) (putK ws k v) (putA kvs k z) := by
  have e : (ws.any fun kv => decide (kv.1 = k)) = (kvs.any fun kv => decide (kv.1 = k)) := by
    clear r
    induction h with
    | nil => rfl
    | cons h1 t ih => rw [List.any_cons, List.any_cons, ih, h1.1]
  have m : Paired (fun (p : κ × V) (q : κ × α) => p.1 = q.1 ∧ R p.2 q.2) (ws.map fun kv => if kv.1 = k then (kv.1, v) else kv) (kvs.map fun kv => if kv.1 = k then (kv.1, z) else kv) := by
    clear e
    induction h with
    | nil => exact .nil
    | @cons p q _ _ h1 t ih =>
      refine .cons ?_ ih
      show (if p.1 = k then (p.1, v) else p).1 = (if q.1 = k then (q.1, z) else q).1 ∧ R (if p.1 = k then (p.1, v) else p).2 (if q.1 = k then (q.1, z) else q).2
      by_cases c : q.1 = k
      · rw [if_pos c, if_pos (h1.1.trans c)]
        exact ⟨h1.1, r⟩
      · rw [if_neg c, if_neg (fun w => c (h1.1 ▸ w))]
        exact h1
  unfold putK putA
  rw [e]
  split
  · exact m
  · exact paired_app h (.cons ⟨rfl, r⟩ .nil)
end
/-- y is a key, that of x told by o -/
def DGA (x y : A) (ρ : Sto) (o : Option A) : Prop :=
  (∃ a kvs k, x = .m a ∧ ρ a = some (.dK kvs) ∧ y = .d (keyD k) ∧ o = valA kvs k) ∨
  (∃ ks ds k, x = .d (.dic ks ds) ∧ y = .d (keyD k) ∧ ks.length = ds.length ∧ o = valA (ks.zip (ds.map A.d)) k) ∨
  ∃ a kvs k, x = .m a ∧ ρ a = some (.dT kvs) ∧ y = .d (.ptup (k.map keyD)) ∧ o = valA kvs k
theorem key_v {H : Hp} {w : V} {k : Key} (r : Rep H w (keyD k)) : w = kV k := by
  cases k with
  | inl i => cases r; rfl
  | inr z => cases r; rfl
theorem keys_v {H : Hp} {ρ : Sto} : ∀ {vs : List V} {ks : List Key}, RAs H ρ vs ((ks.map keyD).map .d) → vs = ks.map kV
  | [], [], _ => rfl
  | v :: vs, k :: ks, r => by
    cases r with
    | cons r1 r2 =>
      rw [keys_v r2, key_v r1]
      rfl
  | [], _ :: _, r => by cases r
  | _ :: _, [], r => by cases r
theorem dga_at {x y : A} {ρ : Sto} {o : Option A} {H : Hp} {v w : V} (h : DGA x y ρ o) (s : Sat H ρ) (rv : RA H ρ v x) (rw_ : RA H ρ w y) : ∃ a o', v = .ref a ∧ IsD H a ∧ DGet H a w o' ∧ OR (RA H ρ) o o' := by
  rcases h with ⟨a, kvs, k, rfl, e, rfl, rfl⟩ | ⟨ks, ds, k, rfl, rfl, hl, rfl⟩ | ⟨a, kvs, k, rfl, e, rfl, rfl⟩
  · obtain ⟨ws, ew, r⟩ := s a _ e
    have hw := key_v rw_
    subst hw
    exact ⟨a, _, rv, .inl ⟨ws, .inl ew⟩, .inl ⟨ws, k, .inl ew, rfl, rfl⟩, or_val r⟩
  · obtain ⟨p, ob, kvs, rfl, e, hk, rs⟩ := dic_at rv
    have hw := key_v rw_
    subst hw
    refine ⟨p, _, rfl, .inl ⟨kvs, .inr ⟨ob, e⟩⟩, .inl ⟨kvs, k, .inr ⟨ob, e⟩, rfl, rfl⟩, or_val ?_⟩
    refine paired_of (by rw [List.length_zip, List.length_map, ← hl, Nat.min_self, ← hk, List.length_map]) fun i p q e1 e2 => ?_
    have e2' := List.getElem?_zip_eq_some.mp e2
    refine ⟨?_, paired_rel rs i p.2 q.2 (by rw [List.getElem?_map, e1]; rfl) e2'.2⟩
    have z := e2'.1
    rw [← hk, List.getElem?_map, e1] at z
    exact Option.some.inj z
  · obtain ⟨ws, ew, r⟩ := s a _ e
    obtain ⟨b, vs, rfl, eb, rs⟩ := ptup_at rw_
    have hv := keys_v rs
    subst hv
    exact ⟨a, _, rv, .inr ⟨ws, .inl ew⟩, .inr ⟨ws, k, b, .inl ew, rfl, eb, rfl⟩, or_val r⟩
/-- x[y] = z gives ρ' -/
def DPA (x y z : A) (ρ ρ' : Sto) : Prop :=
  (∃ a kvs k, x = .m a ∧ ρ a = some (.dK kvs) ∧ y = .d (keyD k) ∧ kvs.length < 100000 ∧ ρ' = pu ρ a (.dK (putA kvs k z))) ∨
  ∃ a kvs k, x = .m a ∧ ρ a = some (.dT kvs) ∧ y = .d (.ptup (k.map keyD)) ∧ kvs.length < 100000 ∧ ρ' = pu ρ a (.dT (putA kvs k z))
theorem dpa_at {x y z : A} {ρ ρ' : Sto} {H : Hp} {v w u : V} (h : DPA x y z ρ ρ') (s : Sat H ρ) (rv : RA H ρ v x) (rw_ : RA H ρ w y) (ru : RA H ρ u z) : ∃ a H', v = .ref a ∧ DPut H a w u H' ∧ Sat H' ρ' ∧ Step H ρ H' ρ' := by
  rcases h with ⟨a, kvs, k, rfl, e, rfl, hz, rfl⟩ | ⟨a, kvs, k, rfl, e, rfl, hz, rfl⟩
  · obtain ⟨ws, ew, r⟩ := s a _ e
    have hw := key_v rw_
    subst hw
    obtain ⟨g8, s8⟩ := s.put (u := .dK (putK ws k u)) (o := .dK (putA kvs k z)) e fun H' ρ' g e => ⟨_, e, paired_put (ru.step g) (Paired.mono (fun _ _ r => ⟨r.1, r.2.step g⟩) r)⟩
    exact ⟨a, _, rv, .inl ⟨ws, k, ew, rfl, sz_lt (by rw [r.length]; exact hz), rfl⟩, s8, g8⟩
  · obtain ⟨ws, ew, r⟩ := s a _ e
    obtain ⟨b, vs, rfl, eb, rs⟩ := ptup_at rw_
    have hv := keys_v rs
    subst hv
    obtain ⟨g8, s8⟩ := s.put (u := .dT (putK ws k u)) (o := .dT (putA kvs k z)) e fun H' ρ' g e => ⟨_, e, paired_put (ru.step g) (Paired.mono (fun _ _ r => ⟨r.1, r.2.step g⟩) r)⟩
    exact ⟨a, _, rv, .inr ⟨ws, k, b, ew, rfl, eb, sz_lt (by rw [r.length]; exact hz), rfl⟩, s8, g8⟩
def rmS (ρ : Sto) (a : Addr) : Sto := fun b => if b = a then none else ρ b
theorem rm_sub (ρ : Sto) (a : Addr) : Sub (rmS ρ a) ρ := fun b o e => by
  unfold rmS at e
  split at e
  · cases e
  · exact e
theorem rm_same {ρ : Sto} {a : Addr} : rmS ρ a a = none := if_pos rfl
theorem rm_ne {ρ : Sto} {a b : Addr} (h : b ≠ a) : rmS ρ a b = ρ b := if_neg h
section
variable {γ γ' : Env} {ρ ρ' : Sto} {C : KA} {te ta tb td ty tv tx : TE} {t tt : TT} {ts tu tw : TS} {tr : TA} {g : TG} {x y : A} {K : PySem.W.Frag} {Q : QA} {vs : List Nat}
theorem we_dget (h : WE td γ ρ fun x ρ1 => WE ty γ ρ1 fun y ρ2 => ∃ z, DGA x y ρ2 (some z) ∧ Q z ρ2) : WE (tDGet td ty) γ ρ Q := fun H σ s e Kk k => h H σ s e _ fun H1 ρ1 v x s1 g1 rv q1 => q1 H1 σ s1 (se_step g1 e) _ fun H2 ρ2 w y s2 g2 rw_ ⟨z, d, q2⟩ => by
  obtain ⟨a, o', rfl, _, dg, hs, _⟩ := dga_at d s2 (rv.step g2) rw_
  obtain ⟨u, rfl, ru⟩ := hs z rfl
  exact ⟨a, u, rfl, dg, k H2 ρ2 u z s2 (g1.trans g2) ru q2⟩
theorem or_some {H : Hp} {o : Option A} {o' : Option V} (h : OR (RA H ρ) o o') : o'.isSome = o.isSome := by
  cases o with
  | none => rw [h.2 rfl] <;> rfl
  | some z =>
    obtain ⟨u, rfl, _⟩ := h.1 z rfl
    rfl
theorem we_din (h : WE ty γ ρ fun y ρ1 => WE td γ ρ1 fun x ρ2 => ∃ o, DGA x y ρ2 o ∧ Q (.d (.bl o.isSome)) ρ2) : WE (tDIn ty td) γ ρ Q := fun H σ s e Kk k => h H σ s e _ fun H1 ρ1 w y s1 g1 rw_ q1 => q1 H1 σ s1 (se_step g1 e) _ fun H2 ρ2 v x s2 g2 rv ⟨o, d, q2⟩ => by
  obtain ⟨a, o', rfl, _, dg, hs⟩ := dga_at d s2 rv (rw_.step g2)
  refine ⟨a, o', rfl, dg, ?_⟩
  rw [or_some hs]
  exact k H2 ρ2 _ (.d (.bl _)) s2 (g1.trans g2) (Rep.bl _) q2
theorem we_dnotin (h : WE ty γ ρ fun y ρ1 => WE td γ ρ1 fun x ρ2 => ∃ o, DGA x y ρ2 o ∧ Q (.d (.bl (!o.isSome))) ρ2) : WE (tDNotIn ty td) γ ρ Q := fun H σ s e Kk k => h H σ s e _ fun H1 ρ1 w y s1 g1 rw_ q1 => q1 H1 σ s1 (se_step g1 e) _ fun H2 ρ2 v x s2 g2 rv ⟨o, d, q2⟩ => by
  obtain ⟨a, o', rfl, _, dg, hs⟩ := dga_at d s2 rv (rw_.step g2)
  refine ⟨a, o', rfl, dg, ?_⟩
  rw [or_some hs]
  exact k H2 ρ2 _ (.d (.bl _)) s2 (g1.trans g2) (Rep.bl _) q2
/-- x is a dict -/
def DcA (x : A) (ρ : Sto) : Prop := (∃ a kvs, x = .m a ∧ ρ a = some (.dK kvs)) ∨ (∃ ks ds, x = .d (.dic ks ds)) ∨ ∃ a kvs, x = .m a ∧ ρ a = some (.dT kvs)
theorem dca_at {H : Hp} {v : V} (h : DcA x ρ) (s : Sat H ρ) (rv : RA H ρ v x) : ∃ a, v = .ref a ∧ IsD H a := by
  rcases h with ⟨a, kvs, rfl, e⟩ | ⟨ks, ds, rfl⟩ | ⟨a, kvs, rfl, e⟩
  · obtain ⟨ws, ew, r⟩ := s a _ e
    exact ⟨a, rv, .inl ⟨ws, .inl ew⟩⟩
  · obtain ⟨p, ob, kvs, rfl, e, hk, rs⟩ := dic_at rv
    exact ⟨p, rfl, .inl ⟨kvs, .inr ⟨ob, e⟩⟩⟩
  · obtain ⟨ws, ew, r⟩ := s a _ e
    exact ⟨a, rv, .inr ⟨ws, .inl ew⟩⟩
theorem we_dget2 (h : WE td γ ρ fun x ρ1 => DcA x ρ1 ∧ WE ty γ ρ1 fun y ρ2 => WE tx γ ρ2 fun z ρ3 => ∃ o, DGA x y ρ3 o ∧ Q (o.getD z) ρ3) : WE (tDGet2 td ty tx) γ ρ Q := fun H σ s e Kk k => h H σ s e _ fun H1 ρ1 v x s1 g1 rv ⟨dc, q1⟩ => by
  obtain ⟨a, rfl, isd⟩ := dca_at dc s1 rv
  refine ⟨a, rfl, isd, q1 H1 σ s1 (se_step g1 e) _ fun H2 ρ2 w y s2 g2 rw_ q2 => q2 H2 σ s2 (se_step (g1.trans g2) e) _ fun H3 ρ3 u z s3 g3 ru ⟨o, d, q3⟩ => ?_⟩
  obtain ⟨a', o', ea, _, dg, hs⟩ := dga_at d s3 (rv.step (g2.trans g3)) (rw_.step g3)
  cases ea
  refine ⟨o', dg, ?_⟩
  cases o with
  | none =>
    rw [hs.2 rfl]
    exact k H3 ρ3 u z s3 ((g1.trans g2).trans g3) ru q3
  | some z' =>
    obtain ⟨u', rfl, ru'⟩ := hs.1 z' rfl
    exact k H3 ρ3 u' z' s3 ((g1.trans g2).trans g3) ru' q3
theorem ws_dput (h : WE tv γ ρ fun z ρ1 => WE td γ ρ1 fun x ρ2 => WE ty γ ρ2 fun y ρ3 => ∃ ρ4, DPA x y z ρ3 ρ4 ∧ C.nx γ ρ4) : WS (sDPut td ty tv) γ ρ C := fun H σ s e D k => h H σ s e _ fun H1 ρ1 u z s1 g1 ru q1 => q1 H1 σ s1 (se_step g1 e) _ fun H2 ρ2 v x s2 g2 rv q2 => q2 H2 σ s2 (se_step (g1.trans g2) e) _ fun H3 ρ3 w y s3 g3 rw_ ⟨ρ4, d, q3⟩ => by
  obtain ⟨a, H4, rfl, dp, s4, g4⟩ := dpa_at d s3 (rv.step g3) rw_ (ru.step (g2.trans g3))
  exact ⟨a, H4, rfl, dp, k.nx H4 ρ4 σ γ s4 (((g1.trans g2).trans g3).trans g4) (se_step (((g1.trans g2).trans g3).trans g4) e) q3⟩
theorem ws_daug {rd : V → V → Hp → VK → Prop} (h : WE td γ ρ fun x ρ1 => WE ty γ ρ1 fun y ρ2 => ∃ z, DGA x y ρ2 (some z) ∧ WE tv γ ρ2 fun z2 ρ3 => O2 rd z z2 ρ3 fun z3 ρ4 => ∃ ρ5, DPA x y z3 ρ4 ρ5 ∧ C.nx γ ρ5) : WS (sDAug td ty tv rd) γ ρ C := fun H σ s e D k =>
  h H σ s e _ fun H1 ρ1 v x s1 g1 rv q1 => q1 H1 σ s1 (se_step g1 e) _ fun H2 ρ2 w y s2 g2 rw_ ⟨z, d, q2⟩ => by
    obtain ⟨a, o', rfl, _, dg, hs, _⟩ := dga_at d s2 (rv.step g2) rw_
    obtain ⟨u, rfl, ru⟩ := hs z rfl
    refine ⟨a, u, rfl, dg, q2 H2 σ s2 (se_step (g1.trans g2) e) _ fun H3 ρ3 u2 z2 s3 g3 ru2 q3 => q3 H3 u u2 s3 (ru.step g3) ru2 _ fun H4 ρ4 u3 z3 s4 g4 ru3 ⟨ρ5, dp, q4⟩ => ?_⟩
    obtain ⟨a', H5, ea, dpu, s5, g5⟩ := dpa_at dp s4 (rv.step ((g2.trans g3).trans g4)) (rw_.step (g3.trans g4)) ru3
    cases ea
    have gg := (((g1.trans g2).trans g3).trans g4).trans g5
    exact ⟨H5, dpu, k.nx H5 ρ5 σ γ s5 gg (se_step gg e) q4⟩
/-! a dict, a list stay as they are from now on -/
def tFrz (t : TS) : TS := fun D σ H => ∃ d u, H d = some u ∧ Mut (some u) ∧ ∀ od, t D σ (upd H d (.frz od u))
theorem pss_frz {X : Cx} {sts : List Stmt} (h : PSs X sts ts) : PSs X sts (tFrz ts) := by
  refine ⟨fun pins s σ H D I hw => ?_⟩
  obtain ⟨d, u, hd, mu, hw⟩ := hw
  obtain ⟨od, I1⟩ := I.lock hd mu
  exact h.run pins s σ _ D I1 (hw od)
theorem ps_frz {X : Cx} {st : Stmt} (h : PS X st ts) : PS X st (tFrz ts) := by
  refine ⟨fun pins s σ H D I hw => ?_⟩
  obtain ⟨d, u, hd, mu, hw⟩ := hw
  obtain ⟨od, I1⟩ := I.lock hd mu
  exact h.run pins s σ _ D I1 (hw od)
theorem ws_frz {i : Nat} {a : Addr} {ks : List Key} {ds : List D} (hi : γ[i]? = some (some (.m a))) (ha : ρ a = some (.dK (ks.zip (ds.map A.d)))) (hl : ks.length = ds.length) (h : WS ts (γ.set i (some (.d (.dic ks ds)))) (rmS ρ a) C) : WS (tFrz ts) γ ρ C := fun H σ s e D k => by
  obtain ⟨ws, ew, r⟩ := s a _ ha
  refine ⟨a, _, ew, trivial, fun od => ?_⟩
  have hz : ws.length = ks.length := by rw [r.length, List.length_zip, List.length_map, ← hl, Nat.min_self]
  have g : Step H ρ (upd H a (.frz od (.dK ws))) (rmS ρ a) := fun b o eb => by
    obtain ⟨nb, q⟩ := hf_some eb
    have hb : b ≠ a := fun z => by rw [z, ha] at nb; cases nb
    rw [hf_out (by rw [rm_ne hb]; exact nb), upd_ne hb]
    exact q
  have s2 : Sat (upd H a (.frz od (.dK ws))) (rmS ρ a) := fun b o eb => by
    have hb : b ≠ a := fun z => by rw [z, rm_same] at eb; cases eb
    rw [rm_ne hb] at eb
    exact (s b o eb).step g (upd_ne hb)
  have rs : RAs (upd H a (.frz od (.dK ws))) (rmS ρ a) (ws.map Prod.snd) (ds.map .d) := paired_of (by rw [List.length_map, List.length_map, hz, hl]) fun j v z e1 e2 => by
    rw [List.getElem?_map] at e1
    obtain ⟨p, ep, rfl⟩ := Option.map_eq_some_iff.mp e1
    obtain ⟨q, eq, r1⟩ := paired_at' r ep
    have e3 := List.getElem?_zip_eq_some.mp eq
    rw [e3.2] at e2
    cases e2
    exact r1.2.step g
  obtain ⟨n, rr⟩ := rep_list rs
  have hr : RA (upd H a (.frz od (.dK ws))) (rmS ρ a) (.ref a) (.d (.dic ks ds)) := by
    refine Rep.dic (by rw [hf_out rm_same, upd_same]) ?_ (by rw [List.length_map] at n; exact n) rr
    apply List.ext_getElem?
    intro j
    rw [List.getElem?_map]
    cases ej : ws[j]? with
    | none =>
      have := List.getElem?_eq_none_iff.mp ej
      rw [List.getElem?_eq_none (by omega)]
      rfl
    | some p =>
      obtain ⟨q, eq, r1⟩ := paired_at' r ej
      have e3 := List.getElem?_zip_eq_some.mp eq
      rw [e3.1, ← r1.1]
      rfl
  obtain ⟨o, eo, ro⟩ := paired_at e hi
  obtain ⟨v, rfl, rv⟩ := ro _ rfl
  cases (show v = .ref a from rv)
  have e2 : SE (upd H a (.frz od (.dK ws))) (rmS ρ a) (σ.set i (some (.ref a))) (γ.set i (some (.d (.dic ks ds)))) := se_set (se_step g e) hr i
  have es : σ.set i (some (.ref a)) = σ := by
    apply List.ext_getElem?
    intro j
    rw [List.getElem?_set]
    by_cases c : i = j
    · rw [if_pos c]
      subst c
      by_cases hl : i < σ.length
      · rw [if_pos hl, eo]
      · rw [if_neg hl, List.getElem?_eq_none (by omega)]
    · rw [if_neg c]
  rw [es] at e2
  exact h _ σ s2 e2 D (k.step g)
theorem ws_frzL {i : Nat} {a : Addr} {ds : List D} (hi : γ[i]? = some (some (.m a))) (ha : ρ a = some (.lst (ds.map A.d))) (h : WS ts (γ.set i (some (.d (.lst ds)))) (rmS ρ a) C) : WS ts γ ρ C := fun H σ s e D k => by
  obtain ⟨ws, ew, r⟩ := s a _ ha
  have g : Step H ρ H (rmS ρ a) := Step.sub (rm_sub ρ a)
  obtain ⟨n, rr⟩ := rep_list (pa_step g r)
  have hr : RA H (rmS ρ a) (.ref a) (.d (.lst ds)) := Rep.lst (by rw [hf_out rm_same]; exact ew) n rr
  obtain ⟨o, eo, ro⟩ := paired_at e hi
  obtain ⟨v, rfl, rv⟩ := ro _ rfl
  cases (show v = .ref a from rv)
  have e2 := se_set (se_step g e) hr i
  have es : σ.set i (some (.ref a)) = σ := by
    apply List.ext_getElem?
    intro j
    rw [List.getElem?_set]
    by_cases c : i = j
    · rw [if_pos c]
      subst c
      by_cases hl : i < σ.length
      · rw [if_pos hl, eo]
      · rw [if_neg hl, List.getElem?_eq_none (by omega)]
    · rw [if_neg c]
  rw [es] at e2
  exact h H σ (s.sub (rm_sub ρ a)) e2 D (k.step g)
/-- a value that is a list of the store, told as data from now on -/
theorem WE.frzL (h : WE te γ ρ fun x ρ1 => Q x ρ1 ∨ ∃ a ds ρ2, x = .m a ∧ ρ1 a = some (.lst (ds.map A.d)) ∧ Sub ρ2 ρ1 ∧ ρ2 a = none ∧ Q (.d (.lst ds)) ρ2) : WE te γ ρ Q := fun H σ s e Kk k => h H σ s e Kk fun H1 ρ1 v x s1 g1 rv q => by
  rcases q with q | ⟨a, ds, ρ2, rfl, ea, sb, en, q⟩
  · exact k H1 ρ1 v x s1 g1 rv q
  · obtain ⟨ws, ew, r⟩ := s1 a _ ea
    have g := Step.sub (H := H1) sb
    obtain ⟨n, rr⟩ := rep_list (pa_step g r)
    cases (show v = .ref a from rv)
    exact k H1 ρ2 _ (.d (.lst ds)) (s1.sub sb) (g1.trans g) (Rep.lst (by rw [hf_out en]; exact ew) n rr) q
/-- {k: v for ..}: the dict so far in the store at L -/
theorem we_dc {wi : TI} (h : WI wi γ ρ fun xs G ρ1 => ∀ L, ρ1 L = none → ∃ (I : Nat → Sto → Prop), I 0 (pu ρ1 L (.dK [])) ∧ (∀ i ρ', i ≤ xs.length → I i ρ' → G ρ') ∧
      (∀ i y ρ', xs[i]? = some y → I i ρ' → WGv g vs y (wipeE γ vs) ρ' fun γ2 ρ2 => WT tt γ2 ρ2 fun b ρ3 => (b = true → WE ty γ2 ρ3 fun kx ρ4 => WE tv γ2 ρ4 fun z ρ5 => ∃ kvs k, kx = .d (keyD k) ∧ ρ5 L = some (.dK kvs) ∧ kvs.length < 100000 ∧ I (i + 1) (pu ρ5 L (.dK (putA kvs k z)))) ∧ (b = false → I (i + 1) ρ3)) ∧
      (∀ ρ', I xs.length ρ' → Q (.m L) ρ')) : WE (tDc wi g tt ty tv vs) γ ρ Q := fun H σ s e Kk k =>
  h H σ s e _ fun H1 ρ1 J xs G s1 g1 J1 w L hL => by
    obtain ⟨I, h0, hG, hs, hd⟩ := w L (s1.free hL)
    obtain ⟨g2, s2⟩ := s1.add (u := .dK []) (o := .dK []) hL fun H' ρ' g e => ⟨[], e, .nil⟩
    refine ⟨fun i m H' => m = xs.length - i ∧ i ≤ xs.length ∧ ∃ ρ', Sat H' ρ' ∧ Step H1 ρ1 H' ρ' ∧ I i ρ', ⟨xs.length, by simp, Nat.zero_le _, _, s2, g2, h0⟩, ?_⟩
    rintro i m H' ⟨rfl, hi, ρ', s3, g3, q3⟩
    have hg := hG i ρ' hi q3
    by_cases hlt : i < xs.length
    · refine .inr ⟨J1.go i H' ρ' hlt s3 g3 hg, fun H4 => ∃ ρ4, Sat H4 ρ4 ∧ Step H1 ρ1 H4 ρ4 ∧ I (i + 1) ρ4, fun H4 w => ⟨xs.length - (i + 1), by omega, rfl, hlt, w⟩, fun v H4 yl => ?_⟩
      obtain ⟨s4, g4, y, ey, ry⟩ := J1.yl i H' ρ' v H4 hlt s3 g3 hg yl
      refine hs i y ρ' ey q3 H4 (wipe σ vs) v s4 (se_wipe (se_step ((g1.trans g3).trans g4) e) vs) ry _ fun H5 ρ5 σ5 γ5 s5 g5 e5 q5 w5 => ⟨w5.trans (wipe_wipe σ vs), ?_⟩
      refine q5 H5 σ5 s5 e5 _ fun H6 ρ6 b s6 g6 q6 => ?_
      have gg := ((g3.trans g4).trans g5).trans g6
      cases b with
      | false => exact ⟨ρ6, s6, gg, q6.2 rfl⟩
      | true =>
        refine q6.1 rfl H6 σ5 s6 (se_step g6 e5) _ fun H7 ρ7 uk kx s7 g7 r7 q7 => q7 H7 σ5 s7 (se_step (g6.trans g7) e5) _ fun H8 ρ8 u z s8 g8 r8 ⟨kvs, kk, ek, e8, hz, q8⟩ => ?_
        subst ek
        obtain ⟨ws, ew, rv⟩ := s8 L _ e8
        have hk := key_v r7
        subst hk
        obtain ⟨g9, s9⟩ := s8.put (u := .dK (putK ws kk u)) (o := .dK (putA kvs kk z)) e8 fun H' ρ' g e => ⟨_, e, paired_put (r8.step g) (Paired.mono (fun _ _ r => ⟨r.1, r.2.step g⟩) rv)⟩
        exact ⟨ws, kk, rfl, ew, sz_lt (by rw [rv.length]; exact hz), _, s9, ((gg.trans g7).trans g8).trans g9, q8⟩
    · have ei : i = xs.length := by omega
      subst ei
      exact .inl ⟨J1.st H' ρ' s3 g3 hg, k H' ρ' (.ref L) (.m L) s3 (g1.trans g3) rfl (hd ρ' q3)⟩
end
end AB
set_option Elab.async false
set_option linter.all false
set_option maxRecDepth 100000
set_option maxHeartbeats 4000000
namespace AB
open PySem PySem.Spec PyProof.Rows L2 Evl
section
variable {γ γ' : Env} {ρ ρ' : Sto} {C : KA} {te ta tb td ty tv tx : TE} {t tt : TT} {ts tu tw : TS} {tr : TA} {g : TG} {x y : A} {K : PySem.W.Frag} {Q : QA}
theorem on_int {i : Int} (q : Q (.d (.int i)) ρ) : ON (fun xs H Q => (∃ i, xs = [.int i] ∧ Q (.int i) H) ∨ ∃ k, xs = [.bl k] ∧ Q (.int (if k then 1 else 0)) H) [.d (.int i)] ρ Q := fun H vs s rs Kk k => by
  match vs, rs with
  | [v], .cons r .nil =>
    cases r
    exact .inl ⟨i, rfl, tk_same k s (x := .d (.int i)) (Rep.int _) q⟩
theorem on_min2 {i j : Int} (q : Q (.d (.int (if j < i then j else i))) ρ) : ON (fun xs H Q => ∃ i j, xs = [.int i, .int j] ∧ Q (.int (if j < i then j else i)) H) [.d (.int i), .d (.int j)] ρ Q := fun H vs s rs Kk k => by
  match vs, rs with
  | [v, w], .cons r (.cons r2 .nil) =>
    cases r
    cases r2
    exact ⟨i, j, rfl, tk_same k s (x := .d (.int _)) (Rep.int _) q⟩
theorem on_max2 {i j : Int} (q : Q (.d (.int (if j > i then j else i))) ρ) : ON (fun xs H Q => ∃ i j, xs = [.int i, .int j] ∧ Q (.int (if j > i then j else i)) H) [.d (.int i), .d (.int j)] ρ Q := fun H vs s rs Kk k => by
  match vs, rs with
  | [v, w], .cons r (.cons r2 .nil) =>
    cases r
    cases r2
    exact ⟨i, j, rfl, tk_same k s (x := .d (.int _)) (Rep.int _) q⟩
/-- isinstance of data -/
def tyA : D → String
  | .non => "NoneType"
  | .bl _ => "bool"
  | .int _ => "int"
  | .str _ => "str"
  | .ty _ => "type"
  | .lst _ => "list"
  | .tup _ => "tuple"
  | .ptup _ => "tuple"
  | .dic _ _ => "dict"
def plainD : D → Bool
  | .ty _ => false
  | .ptup _ => false
  | .dic _ _ => false
  | _ => true
theorem rep_ty {H : Hp} {v : V} {d : D} (r : Rep H v d) (h : plainD d = true) : TyX K H v (.type (tyA d)) := by
  cases r with
  | non => exact .base .non
  | bl b => exact .base (.bl b)
  | int i => exact .base (.int i)
  | str x => exact .base (.str x)
  | ty n => cases h
  | lst e _ _ => exact .base (.lst e)
  | tup e _ _ =>
    obtain ⟨od, _, e⟩ := e
    exact .fTuple e
  | ptup _ _ _ => cases h
  | dic _ _ _ _ => cases h
inductive RIsA (H : Hp) : List V → VK → Prop
  | mk {v : V} {d : D} {T : String} {b : Bool} {Q : VK} (r : Rep H v d) (p : plainD d = true) (hb : kitB (tyA d) T = some b) (q : Q (.bl b) H) : RIsA H [v, .ty T] Q
theorem call_isA {X : Cx} : CallR X (.builtin "isinstance") (fun xs H Q => RIsA H xs Q) := by
  intro pins s σ H xs us Q I r h
  cases h with
  | @mk v d T b _ r0 p hb q => exact call_isi pins s σ H _ us Q I r ⟨v, .ty T, .type (tyA d), .type T, b, rfl, .ty T, rep_ty r0 p, kit_ty hb, q⟩
theorem on_is {d : D} {T : String} {b : Bool} (p : plainD d = true) (hb : kitB (tyA d) T = some b) (q : Q (.d (.bl b)) ρ) : ON (fun xs H Q => RIsA H xs Q) [.d d, .d (.ty T)] ρ Q := fun H vs s rs Kk k => by
  match vs, rs with
  | [v, w], .cons r (.cons r2 .nil) =>
    cases r2
    exact .mk (Rep.mono (hf_ex _ _) r) p hb (tk_same k s (x := .d (.bl b)) (Rep.bl _) q)
theorem we_ty {n : String} (q : Q (.d (.ty n)) ρ) : WE (tC (.ty n)) γ ρ Q := we_c (fun _ => .ty n) q
/-- l[i] = x -/
theorem wg_setL {q : Env → Sto → Prop} (h : WE td γ ρ fun o ρ1 => WE ty γ ρ1 fun i ρ2 => ∃ (a : Addr) (xs : List A) (j : Nat), o = .m a ∧ i = .d (.int (j : Nat)) ∧ ρ2 a = some (.lst xs) ∧ j < xs.length ∧ q γ (pu ρ2 a (.lst (xs.set j x)))) : WG (gSub td ty rSetL) x γ ρ q := fun H σ v s e r N k =>
  h H σ s e _ fun H1 ρ1 o xo s1 g1 ro q1 => q1 H1 σ s1 (se_step g1 e) _ fun H2 ρ2 i xi s2 g2 ri ⟨a, xs, j, eo, ei, ea, hj, q2⟩ => by
    subst eo ei
    cases ri
    obtain ⟨us, eu, ru⟩ := s2 a _ ea
    cases (show o = .ref a from ro)
    obtain ⟨g8, s8⟩ := s2.put (u := .lst (us.set j v)) (o := .lst (xs.set j x)) ea fun H' ρ' g e => ⟨_, e, paired_set ((r.step (g1.trans g2)).step g) (pa_step g ru) j⟩
    refine ⟨a, us, (j : Int), j, rfl, rfl, eu, ?_, k _ _ σ γ s8 ((g1.trans g2).trans g8) (se_step ((g1.trans g2).trans g8) e) q2⟩
    exact Evl.ixN_nat (by rw [ru.length]; exact hj)
theorem atI_nat' {α : Type} {xs : List α} {j : Nat} {v : α} (h : xs[j]? = some v) : atI xs (j : Int) = some v := by
  unfold atI
  rw [Evl.ixN_nat (List.getElem?_eq_some_iff.mp h).1]
  exact h
end
end AB
set_option Elab.async false
set_option linter.all false
set_option maxRecDepth 100000
set_option maxHeartbeats 4000000
/-! Tuples of texts: <, and sorted of a list of them. -/
namespace KX
open PySem PySem.Spec PyProof.Rows L2
def ltS : List Str → List Str → Bool
  | [], [] => false
  | [], _ :: _ => true
  | _ :: _, [] => false
  | x :: xs, y :: ys => if x = y then ltS xs ys else decide (x.cps.toList < y.cps.toList)
theorem lexAt_shift (e r : Nat → Bool) (z : Bool) : ∀ (k i : Nat), Ob.lexAt e r z (i + 1) k = Ob.lexAt (fun j => e (j + 1)) (fun j => r (j + 1)) z i k
  | 0, i => rfl
  | k + 1, i => by
    rw [Ob.lexAt_succ, Ob.lexAt_succ, lexAt_shift e r z k (i + 1)]
theorem lexAt_ltS (d : Str) : ∀ (xs ys : List Str), Ob.lexAt (fun j => xs.getD j d == ys.getD j d) (fun j => decide ((xs.getD j d).cps.toList < (ys.getD j d).cps.toList)) (decide (xs.length < ys.length)) 0 (min xs.length ys.length) = ltS xs ys
  | [], [] => rfl
  | [], _ :: _ => by simp [Ob.lexAt, ltS]
  | _ :: _, [] => by simp [Ob.lexAt, ltS]
  | x :: xs, y :: ys => by
    have e : min (x :: xs).length (y :: ys).length = min xs.length ys.length + 1 := by simp
    rw [e, Ob.lexAt_succ, lexAt_shift]
    have h := lexAt_ltS d xs ys
    have hz : decide ((x :: xs).length < (y :: ys).length) = decide (xs.length < ys.length) := by simp
    rw [hz]
    show (if (x == y) = true then Ob.lexAt (fun j => xs.getD j d == ys.getD j d) (fun j => decide ((xs.getD j d).cps.toList < (ys.getD j d).cps.toList)) (decide (xs.length < ys.length)) 0 (min xs.length ys.length) else decide (x.cps.toList < y.cps.toList)) = ltS (x :: xs) (y :: ys)
    rw [h]
    show _ = (if x = y then ltS xs ys else decide (x.cps.toList < y.cps.toList))
    by_cases c : x = y
    · rw [if_pos c, if_pos (beq_iff_eq.mpr c)]
    · rw [if_neg c, if_neg (fun z => c (beq_iff_eq.mp z))]
/-! ### texts behind values -/
def StrsAre (its : List Value) (xs : List Str) : Prop := Vals (xs.map V.str) its
theorem strs_at {its : List Value} {xs : List Str} (h : StrsAre its xs) {j : Nat} (hj : j < its.length) (d : Str) : ∃ t, its[j] = .str (xs.getD j d) t := by
  have hl : its.length = xs.length := by rw [← Vals.length h, List.length_map]
  have hj' : j < xs.length := by omega
  obtain ⟨u, hu, ru⟩ := Vals.get h (i := j) (x := .str xs[j]) (by rw [List.getElem?_map, List.getElem?_eq_getElem hj']; rfl)
  rw [List.getElem?_eq_getElem hj] at hu
  cases Option.some.inj hu
  obtain ⟨t, e⟩ := ru
  exact ⟨t, by rw [e, List.getD_eq_getElem?_getD, List.getElem?_eq_getElem hj']; rfl⟩
def rLtTS (K : PySem.W.Frag) : R2 := fun x y H Q => ∃ (a b : Addr) (xs ys : List Str), x = .ref a ∧ y = .ref b ∧ SqT K H a (xs.map V.str) ∧ SqT K H b (ys.map V.str) ∧ Q (.bl (ltS xs ys)) H
theorem lt_tups {A : Around} {s : Shared} {a b : Addr} {its its2 : List Value} {xs ys : List Str} (h1 : StrsAre its xs) (h2 : StrsAre its2 ys) (p1 : s.heap.IsTuple a its.toArray) (p2 : s.heap.IsTuple b its2.toArray) (hu : A.units < cLine) :
    Ob.RcOp .Lt A s (.ref a) (.ref b) (ltS xs ys) := by
  have l1 : its.length = xs.length := by rw [← Vals.length h1, List.length_map]
  have l2 : its2.length = ys.length := by rw [← Vals.length h2, List.length_map]
  have R := Ob.RcOp.tuples_lt (A := A) (s := s) (e := fun j => xs.getD j default == ys.getD j default) (r := fun j => decide ((xs.getD j default).cps.toList < (ys.getD j default).cps.toList)) p1 p2 hu (fun j h3 h4 => by
    obtain ⟨t, et⟩ := strs_at h1 (j := j) (by simpa using h3) default
    obtain ⟨t', et'⟩ := strs_at h2 (j := j) (by simpa using h4) default
    rw [List.getElem_toArray, List.getElem_toArray, et, et']
    exact SeqAt.EqAt.str_str _ _ _ _) (fun j h3 h4 _ => by
    obtain ⟨t, et⟩ := strs_at h1 (j := j) (by simpa using h3) default
    obtain ⟨t', et'⟩ := strs_at h2 (j := j) (by simpa using h4) default
    rw [List.getElem_toArray, List.getElem_toArray, et, et']
    exact fun _ _ _ _ q => PyProof.Rows.lt_str q)
  rw [List.size_toArray, List.size_toArray, l1, l2, lexAt_ltS] at R
  exact R
theorem op_ltTS {X : Cx} (hu : X.A.units < cLine) : OpR X (compareOp .Lt) (rLtTS X.K) := by
  intro pins s σ H x y v u Q I rx ry h
  obtain ⟨a, b, xs, ys, rfl, rfl, ha, hb, q⟩ := h
  cases rx
  cases ry
  obtain ⟨its, r1, p1, _⟩ := I.tuple ha
  obtain ⟨its2, r2, p2, _⟩ := I.tuple hb
  exact lt_tups r1 r2 p1 p2 hu X.prog X.w X.xe (EP X pins σ Q) ⟨.bl _, H, I, rfl, q⟩
/-! ### sorted -/
theorem list_lt_irrefl (l : List Nat) : ¬ l < l := List.lt_irrefl l
theorem strLt_swo : ∀ x y : Str, decide (x.cps.toList < y.cps.toList) = true → decide (y.cps.toList < x.cps.toList) = false := fun x y h => decide_eq_false (List.lt_asymm (of_decide_eq_true h))
theorem ltS_irrefl : ∀ xs : List Str, ltS xs xs = false
  | [] => rfl
  | x :: xs => by
    show (if x = x then ltS xs xs else _) = false
    rw [if_pos rfl]
    exact ltS_irrefl xs
theorem ltS_asymm : ∀ {xs ys : List Str}, ltS xs ys = true → ltS ys xs = false
  | [], [], h => by cases h
  | [], _ :: _, _ => rfl
  | _ :: _, [], h => by cases h
  | x :: xs, y :: ys, h => by
    have h' : (if x = y then ltS xs ys else decide (x.cps.toList < y.cps.toList)) = true := h
    show (if y = x then ltS ys xs else decide (y.cps.toList < x.cps.toList)) = false
    by_cases c : x = y
    · rw [if_pos c] at h'
      rw [if_pos c.symm]
      exact ltS_asymm h'
    · rw [if_neg c] at h'
      rw [if_neg (fun z => c z.symm)]
      exact strLt_swo _ _ h'
theorem str_tri {x y : Str} (h : ¬ x.cps.toList < y.cps.toList) (h' : ¬ y.cps.toList < x.cps.toList) : x = y := by
  have e : x.cps.toList = y.cps.toList := List.le_antisymm (List.not_lt.mp h') (List.not_lt.mp h)
  cases x
  cases y
  congr 1
  exact Array.toList_inj.mp e
theorem ltS_tri : ∀ {xs ys : List Str}, ltS xs ys = false → ltS ys xs = false → xs = ys
  | [], [], _, _ => rfl
  | [], _ :: _, h, _ => by cases h
  | _ :: _, [], _, h => by cases h
  | x :: xs, y :: ys, h, k => by
    have h' : (if x = y then ltS xs ys else decide (x.cps.toList < y.cps.toList)) = false := h
    have k' : (if y = x then ltS ys xs else decide (y.cps.toList < x.cps.toList)) = false := k
    by_cases c : x = y
    · rw [if_pos c] at h'
      rw [if_pos c.symm] at k'
      rw [c, ltS_tri h' k']
    · rw [if_neg c] at h'
      rw [if_neg (fun z => c z.symm)] at k'
      exact absurd (str_tri (of_decide_eq_false h') (of_decide_eq_false k')) c
theorem ltS_trans : ∀ {xs ys zs : List Str}, ltS xs ys = true → ltS ys zs = true → ltS xs zs = true
  | [], [], _, h, _ => by cases h
  | _ :: _, [], _, h, _ => by cases h
  | _, _ :: _, [], _, h => by cases h
  | [], _ :: _, _ :: _, _, _ => rfl
  | x :: xs, y :: ys, z :: zs, h, k => by
    have h' : (if x = y then ltS xs ys else decide (x.cps.toList < y.cps.toList)) = true := h
    have k' : (if y = z then ltS ys zs else decide (y.cps.toList < z.cps.toList)) = true := k
    show (if x = z then ltS xs zs else decide (x.cps.toList < z.cps.toList)) = true
    by_cases c : x = y
    · subst c
      rw [if_pos rfl] at h'
      by_cases d : x = z
      · rw [if_pos d] at k' ⊢
        exact ltS_trans h' k'
      · rw [if_neg d] at k' ⊢
        exact k'
    · rw [if_neg c] at h'
      by_cases d : y = z
      · subst d
        rw [if_neg c]
        exact h'
      · rw [if_neg d] at k'
        have t := List.lt_trans (of_decide_eq_true h') (of_decide_eq_true k')
        rw [if_neg (fun e => by rw [e] at t; exact List.lt_irrefl _ t)]
        exact decide_eq_true t
theorem swo_ltS {α : Type} (k : α → List Str) : SrtO.Swo fun x y => ltS (k x) (k y) := by
  refine ⟨fun x y h => ltS_asymm h, fun x y z h1 h2 => ?_⟩
  cases e : ltS (k z) (k x) with
  | false => rfl
  | true =>
    by_cases c : ltS (k y) (k z) = true
    · have := ltS_trans c e
      rw [h1] at this
      cases this
    · have e1 := ltS_tri h2 (by simpa using c)
      rw [e1, h1] at e
      cases e
/-! the items compare -/
open SrtO
section
variable {prog : Program} {w : World} {A : Around} {E : Value → Shared → Prop} {s : Shared}
/-- v is a tuple of the texts k v -/
def TupS (h : Heap) (k : Value → List Str) (v : Value) : Prop := ∃ (a : Addr) (its : List Value), v = .ref a ∧ h.IsTuple a its.toArray ∧ StrsAre its (k v)
theorem TupS.keeps {h h' : Heap} {k : Value → List Str} {v : Value} (x : TupS h k v) (kp : ∀ b o, h.get? b = some o → o.cls = .type "tuple" → h'.get? b = some o) : TupS h' k v := by
  obtain ⟨a, its, e, ⟨o, ho, hc, r⟩, m⟩ := x
  exact ⟨a, its, e, ⟨o, kp a o ho hc, hc, r⟩, m⟩
theorem lex_strs {b fin : Bool} {Q : Bool → Shared → Prop} : ∀ {us vs : List Value} {xs ys : List Str} (i : Nat), StrsAre us xs → StrsAre vs ys → fin = decide (us.length < vs.length) → Q (ltS xs ys) s → PySem.W.KatLex prog w A b fin Q (us.zip vs) i s
  | [], [], xs, ys, i, h1, h2, hf, q => by
    cases xs with
    | cons _ _ => cases h1
    | nil =>
      cases ys with
      | cons _ _ => cases h2
      | nil =>
        subst hf
        exact PySem.W.kat_nil q
  | [], v :: vs, xs, ys, i, h1, h2, hf, q => by
    cases xs with
    | cons _ _ => cases h1
    | nil =>
      cases ys with
      | nil => cases h2
      | cons _ _ =>
        subst hf
        exact PySem.W.kat_nil q
  | u :: us, [], xs, ys, i, h1, h2, hf, q => by
    cases ys with
    | cons _ _ => cases h2
    | nil =>
      cases xs with
      | nil => cases h1
      | cons _ _ =>
        subst hf
        exact PySem.W.kat_nil q
  | u :: us, v :: vs, xs, ys, i, h1, h2, hf, q => by
    cases xs with
    | nil => cases h1
    | cons x xs =>
      cases ys with
      | nil => cases h2
      | cons y ys =>
        cases h1 with
        | cons r1 t1 =>
          cases h2 with
          | cons r2 t2 =>
            obtain ⟨t, rfl⟩ := r1
            obtain ⟨t', rfl⟩ := r2
            have g : ltS (x :: xs) (y :: ys) = (if x = y then ltS xs ys else decide (x.cps.toList < y.cps.toList)) := rfl
            rw [g] at q
            refine PySem.W.kat_cons (SeqAt.EqAt.str_str x t y t' prog w _ _ ?_)
            refine PySem.W.kat_go (fun e1 => ?_) (fun e1 => ?_)
            · have ex : x = y := by simpa using e1
              rw [if_pos ex] at q
              exact PySem.W.kat_yes (lex_strs (i + 1) t1 t2 (by rw [hf]; simp) q)
            · have ex : ¬ x = y := by simpa using e1
              rw [if_neg ex] at q
              refine PySem.W.kat_no ?_
              cases hb : (b && i == 0) with
              | true => exact oneLt_str q
              | false => exact PySem.W.kat_one _ _ (PyProof.Rows.lt_str (Q := PySem.W.BoolBack Q) q)
theorem strs_cmp {vs : List Value} {k : Value → List Str} (hp : ∀ v ∈ vs, TupS s.heap k v) : Cmp prog w A s (tuples' true) (fun p => p.1 ∈ vs) (lt2 fun v u => ltS (k v) (k u)) := by
  intro p q hm hm'
  obtain ⟨a, its, e1, ⟨o, ho, hc, n, hd⟩, m1⟩ := hp _ hm
  obtain ⟨a', its', e2, ⟨o', ho', hc', n', hd'⟩, m2⟩ := hp _ hm'
  show wpAny (model prog w) A (keyLt' (tuples' true) p.1 q.1) (fun r s' => s' = s ∧ r = ltS (k p.1) (k q.1)) (fun _ _ => False) s
  rw [e1, e2] at *
  refine PySem.W.kat_lt ho hd ho' hd' ?_
  rw [List.size_toArray, List.size_toArray]
  exact lex_strs 0 m1 m2 rfl ⟨rfl, rfl⟩
end
end KX
set_option Elab.async false
set_option linter.all false
set_option maxRecDepth 100000
set_option maxHeartbeats 4000000
namespace KX
open PySem PySem.Spec PyProof.Rows L2 SrtO
section
variable {prog : Program} {w : World} {A : Around} {E : Value → Shared → Prop} {s : Shared}
def hdO (h : Heap) (v : Value) (o : Option Value) : Prop := ∃ (a : Addr) (its : List Value), v = .ref a ∧ h.IsTuple a its.toArray ∧ o = its[0]?
def HdOs (h : Heap) : List Value → List (Option Value) → Prop := Paired (hdO h)
theorem firstsO {M : Model} : ∀ (vs : List Value) (os : List (Option Value)) {Q : List (Option Value) → Shared → Prop}, HdOs s.heap vs os → Q os s → wpAny M A (vs.mapM firstOfTuple') Q E s
  | _, _, _, .nil, h => by rw [List.mapM_nil]; exact wpAny_pure h
  | _, _, Q, .cons (a := v) (b := o) (l₁ := vs) (l₂ := os) ⟨a, its, ev, ⟨ob, ho, hc, n, hd⟩, eo⟩ t, h => by
    subst ev eo
    rw [List.mapM_cons]
    refine wpAny_bind ?_
    rw [PySem.W.kas_first_eq]
    refine wpAny_bind (PySem.W.Looks.here (show PySem.W.Looks M s.heap (typeOf (.ref a)) ob.cls from (PySem.W.Looks.ld ho).andThen .now) ?_)
    rw [hc, if_neg (by first | decide | simp)]
    refine wpAny_bind (listItems_at ho hd (wpAny_pure ?_))
    have e : its.toArray[0]? = its[0]? := by simp
    rw [e]
    exact wpAny_bind (firstsO vs os (Q := fun bs s' => wpAny M A (pure (its[0]? :: bs)) Q E s') t (wpAny_pure h))
theorem hdOs_of {h : Heap} {k : Value → List Str} : ∀ {vs : List Value}, (∀ v ∈ vs, TupS h k v) → ∃ os, HdOs h vs os ∧ os.length = vs.length ∧ ∀ o ∈ os, ∀ v, o = some v → ∃ z t, v = Value.str z t
  | [], _ => ⟨[], .nil, rfl, fun o ho => by simp at ho⟩
  | v :: vs, x => by
    obtain ⟨os, p, hl, hi⟩ := hdOs_of (vs := vs) fun u hu => x u (List.mem_cons_of_mem _ hu)
    obtain ⟨a, its, rfl, ht, hs⟩ := x v List.mem_cons_self
    refine ⟨its[0]? :: os, .cons ⟨a, its, rfl, ht, rfl⟩ p, by rw [List.length_cons, List.length_cons, hl], fun o ho v ev => ?_⟩
    rcases List.mem_cons.mp ho with e | ho
    · rw [e] at ev
      obtain ⟨hj, e2⟩ := List.getElem?_eq_some_iff.mp ev
      obtain ⟨t, et⟩ := strs_at hs hj default
      exact ⟨_, t, by rw [← e2]; exact et⟩
    · exact hi o ho v ev
theorem filterMap_some {α : Type} : ∀ {os : List (Option α)}, (os.all fun x => x.isSome) = true → ∃ fs : List α, os = fs.map some
  | [], _ => ⟨[], rfl⟩
  | none :: _, h => by simp at h
  | some f :: os, h => by
    obtain ⟨fs, e⟩ := filterMap_some (os := os) (by simpa using h)
    exact ⟨f :: fs, by rw [e]; rfl⟩
/-- the three ways two tuples of texts are compared in a sort -/
theorem cmp_gen {vs : List Value} {k : Value → List Str} (hu : A.units < cLine) (hp : ∀ v ∈ vs, TupS s.heap k v) : Cmp prog w A s general' (fun p => p.1 ∈ vs) (lt2 fun v u => ltS (k v) (k u)) := by
  intro p q hm hm'
  obtain ⟨a, its, e1, t1, m1⟩ := hp _ hm
  obtain ⟨a', its', e2, t2, m2⟩ := hp _ hm'
  show wpAny (model prog w) A (keyLt' general' p.1 q.1) (fun r s' => s' = s ∧ r = ltS (k p.1) (k q.1)) (fun _ _ => False) s
  have R := lt_tups m1 m2 t1 t2 hu
  rw [e1, e2] at *
  refine PySem.W.kat_one _ _ ?_
  exact R prog w _ (PySem.W.BoolBack _) ⟨rfl, rfl⟩
theorem cmp_one {vs : List Value} {k : Value → List Str} (hu : A.units < cLine) (hp : ∀ v ∈ vs, TupS s.heap k v) : Cmp prog w A s oneType' (fun p => p.1 ∈ vs) (lt2 fun v u => ltS (k v) (k u)) := by
  intro p q hm hm'
  obtain ⟨a, its, e1, t1, m1⟩ := hp _ hm
  obtain ⟨a', its', e2, t2, m2⟩ := hp _ hm'
  show wpAny (model prog w) A (keyLt' oneType' p.1 q.1) (fun r s' => s' = s ∧ r = ltS (k p.1) (k q.1)) (fun _ _ => False) s
  have l1 : its.length = (k p.1).length := by rw [← Vals.length m1, List.length_map]
  have l2 : its'.length = (k q.1).length := by rw [← Vals.length m2, List.length_map]
  generalize k p.1 = xs at m1 l1 ⊢
  generalize k q.1 = ys at m2 l2 ⊢
  rw [e1, e2, keyLt'_oneType, oneLt'_eq]
  simp only [if_true]
  refine wpAny_bind (wpAny_cRoomFor hu ?_)
  obtain ⟨⟨cls, dd, data, sl⟩, ho, hc, n, hd⟩ := id t1
  obtain ⟨⟨cls2, dd2, data2, sl2⟩, ho2, hc2, n2, hd2⟩ := id t2
  simp only at hc hd hc2 hd2
  subst hc hd hc2 hd2
  refine wpAny_bind (wpAny_callSpecialIfBound?_slot t1.typeIs F.slot_tuple_lt (call_meets F.slot_tuple_lt t1.typeIs F.entry_tuple_lt (F.args_tuple_lt_2 _ _) (Ob.tuple_ltAt a a' its.toArray its'.toArray n n2 dd dd2 sl sl2
    (fun j => xs.getD j default == ys.getD j default) (fun j => decide ((xs.getD j default).cps.toList < (ys.getD j default).cps.toList))) ⟨ho, ho2, fun j h3 h4 => ?_, fun j h3 h4 _ => ?_, ?_⟩))
  · obtain ⟨t, et⟩ := strs_at m1 (j := j) (by simpa using h3) default
    obtain ⟨t', et'⟩ := strs_at m2 (j := j) (by simpa using h4) default
    rw [List.getElem_toArray, List.getElem_toArray, et, et']
    exact SeqAt.EqAt.str_str _ _ _ _
  · obtain ⟨t, et⟩ := strs_at m1 (j := j) (by simpa using h3) default
    obtain ⟨t', et'⟩ := strs_at m2 (j := j) (by simpa using h4) default
    rw [List.getElem_toArray, List.getElem_toArray, et, et']
    exact fun _ _ _ _ q => PyProof.Rows.lt_str q
  · rw [List.size_toArray, List.size_toArray, l1, l2, lexAt_ltS]
    exact wpAny_truthy_bool ⟨rfl, rfl⟩
theorem kind_tups {vs : List Value} {k : Value → List Str} (h0 : 0 < vs.length) (hu : A.units < cLine) (hp : ∀ v ∈ vs, TupS s.heap k v) : ∃ κ, (∀ (Q : SortKind → Shared → Prop) (E : Value → Shared → Prop), Q κ s → wpAny (model prog w) A (keyKind' vs.toArray) Q E s) ∧
    Cmp prog w A s κ (fun p => p.1 ∈ vs) (lt2 fun v u => ltS (k v) (k u)) := by
  obtain ⟨os, ho, hl, hi⟩ := hdOs_of hp
  by_cases ha : (os.all fun x => x.isSome) = true
  · obtain ⟨fs, rfl⟩ := filterMap_some ha
    refine ⟨tuples' true, fun Q E hq => ?_, strs_cmp hp⟩
    obtain ⟨f₁, fr, rfl⟩ : ∃ f₁ fr, fs = f₁ :: fr := by
      cases fs with
      | nil => simp at hl; omega
      | cons f fr => exact ⟨f, fr, rfl⟩
    rw [PyProof.Rows.kat_kind_eq, List.mapM_toArray, map_eq_pure_bind]
    refine wpAny_bind (wpAny_bind (firstsO vs _ ho (wpAny_pure ?_)))
    have hall : (((f₁ :: fr).map some).toArray.all fun x => x.isSome) = true := by simp
    rw [if_pos hall]
    refine wpAny_bind (wpAny_rule ?_)
    have hfm : (((f₁ :: fr).map some).toArray.filterMap id) = (f₁ :: fr).toArray := by simp
    rw [hfm, oneTypeOnly'_eq, List.mapM_toArray, map_eq_pure_bind]
    refine wpAny_bind (wpAny_bind (wpAny_bind (PySem.W.kas_mapM (r := Value.type "str") _ (fun v hv Q' hq => ?_) (wpAny_pure ?_))))
    · obtain ⟨z, t, rfl⟩ := hi (some v) (List.mem_map.mpr ⟨v, hv, rfl⟩) v rfl
      exact PySem.W.Looks.now.here hq
    have hall2 : ((List.map (fun _ => Value.type "str") (f₁ :: fr)).toArray.all fun x => x == Value.type "str") = true := by
      simp only [List.all_toArray, List.all_map, List.all_eq_true]
      intro _ _
      exact beq_self_eq_true _
    have h0 : (List.map (fun _ => Value.type "str") (f₁ :: fr)).toArray[0]? = some (Value.type "str") := by simp
    rw [h0]
    simp only [hall2, if_true]
    exact wpAny_pure (wpAny_pure hq)
  · by_cases hb : (os[0]?.bind id).isSome = true
    · refine ⟨general', fun Q E hq => ?_, cmp_gen hu hp⟩
      rw [PyProof.Rows.kat_kind_eq, List.mapM_toArray, map_eq_pure_bind]
      refine wpAny_bind (wpAny_bind (firstsO vs _ ho (wpAny_pure ?_)))
      rw [if_neg (by simpa using ha)]
      have hb' : (os.toArray[0]?.bind id).isSome = true := by simpa using hb
      rw [if_pos hb']
      exact wpAny_pure hq
    · refine ⟨oneType', fun Q E hq => ?_, cmp_one hu hp⟩
      obtain ⟨v₁, vr, rfl⟩ : ∃ f₁ fr, vs = f₁ :: fr := by
        cases vs with
        | nil => simp at h0
        | cons f fr => exact ⟨f, fr, rfl⟩
      rw [PyProof.Rows.kat_kind_eq, List.mapM_toArray, map_eq_pure_bind]
      refine wpAny_bind (wpAny_bind (firstsO _ _ ho (wpAny_pure ?_)))
      rw [if_neg (by simpa using ha)]
      have hb' : ¬ (os.toArray[0]?.bind id).isSome = true := by simpa using hb
      rw [if_neg hb', oneTypeOnly'_eq, List.mapM_toArray, map_eq_pure_bind]
      refine wpAny_bind (wpAny_bind (wpAny_bind (PySem.W.kas_mapM (r := Value.type "tuple") _ (fun v hv Q' hq => ?_) (wpAny_pure ?_))))
      · obtain ⟨a, its, rfl, ⟨ob, ho, hc, _⟩, _⟩ := hp v hv
        refine PySem.W.Looks.here (show PySem.W.Looks _ s.heap (typeOf (.ref a)) ob.cls from (PySem.W.Looks.ld ho).andThen .now) ?_
        rw [hc]
        exact hq
      have hall2 : ((List.map (fun _ => Value.type "tuple") (v₁ :: vr)).toArray.all fun x => x == Value.type "tuple") = true := by
        simp only [List.all_toArray, List.all_map, List.all_eq_true]
        intro _ _
        exact beq_self_eq_true _
      have h0 : (List.map (fun _ => Value.type "tuple") (v₁ :: vr)).toArray[0]? = some (Value.type "tuple") := by simp
      rw [h0]
      simp only [hall2, if_true]
      exact wpAny_pure (wpAny_pure hq)
theorem tups_sortable {a : Addr} {vs : List Value} {k : Value → List Str} (hu : A.units < cLine) (h0 : 0 < vs.length) (hp : ∀ v ∈ vs, TupS s.heap k v) (ha : ∀ o, s.heap.get? a = some o → o.cls ≠ .type "tuple") : SortableO prog w A s a vs fun v u => ltS (k v) (k u) := by
  intro h' keep
  exact kind_tups (s := { s with heap := h' }) h0 hu fun v hm => (hp v hm).keeps fun b o e c => keep b o (fun z => by subst z; exact ha o e c) e
theorem sorted_tupsS {l : Addr} {vs : List Value} {k : Value → List Str} {Q : Value → Shared → Prop} (hu : A.units + 64 < cLine) (hl : s.heap.IsList l vs.toArray) (hz : vs.length ≤ sizeLine) (hp : ∀ v ∈ vs, TupS s.heap k v)
    (h : ∀ (h' : Heap) (d : Addr) (out : List Value), Srtd (fun v u => ltS (k v) (k u)) out → Stb (fun v u => ltS (k v) (k u)) out vs → (∀ b o, s.heap.get? b = some o → h'.get? b = some o) → s.heap.objs.size ≤ d → (∃ n, h'.get? d = some (seqObj "list" out.toArray n)) → Q (.ref d) { s with heap := h' }) :
    wpAny (model prog w) A (call (.builtin "sorted") [.ref l]) Q E s := by
  refine sorted_ord (swo_ltS k) hl hz (fun h2 h₁ a ha kk => ?_) fun out hs hb => ?_
  · refine tups_sortable (s := { s with heap := h₁ }) ?_ (by omega) (fun v hm => (hp v hm).keeps fun b o e _ => (kk b o e).2) fun o e => ?_
    · show A.units + 1 + 1 < cLine
      omega
    have e' : some o = some (seqObj "list" vs.toArray 0) := e.symm.trans ha
    cases e'
    intro c
    exact absurd (Value.type.inj c) (by decide)
  · exact h _ _ out hs hb (fun b o e => sortedAll_old e) (Nat.le_succ _) (sortedAll_at s.heap vs out.toArray)
end
end KX
set_option Elab.async false
set_option linter.all false
set_option maxRecDepth 100000
set_option maxHeartbeats 4000000
namespace KX
open PySem PySem.Spec PyProof.Rows L2 SrtO
section
variable {prog : Program} {w : World} {A : Around} {E : Value → Shared → Prop} {s : Shared}
theorem swo_str {α : Type} (k : α → Str) : SrtO.Swo fun x y => decide ((k x).cps.toList < (k y).cps.toList) := by
  have h := swo_ltS fun x => [k x]
  have e : ∀ x y : α, ltS [k x] [k y] = decide ((k x).cps.toList < (k y).cps.toList) := fun x y => by
    show (if k x = k y then false else decide ((k x).cps.toList < (k y).cps.toList)) = _
    by_cases c : k x = k y
    · rw [if_pos c, c]
      exact (decide_eq_false (List.lt_irrefl _)).symm
    · rw [if_neg c]
  refine ⟨fun x y q => ?_, fun x y z q r => ?_⟩
  · rw [← e] at q ⊢
    exact h.asym x y q
  · rw [← e] at q r ⊢
    exact h.tr x y z q r
theorem strs_sortable {a : Addr} {vs : List Value} {k : Value → Str} (h2 : 2 ≤ vs.length) (hp : ∀ v ∈ vs, ∃ t, v = Value.str (k v) t) : SortableO prog w A s a vs fun v u => decide ((k v).cps.toList < (k u).cps.toList) := by
  intro h' keep
  refine ⟨oneType', fun Q E hq => PySem.W.kas_kind (T := .type "str") h2 (fun v hv => ?_) (by first | decide | rfl) (by first | decide | rfl) hq, fun p q hm hm' => ?_⟩
  · obtain ⟨t, e⟩ := hp v hv
    rw [e]
    exact PySem.W.Looks.now
  · obtain ⟨t, e⟩ := hp _ hm
    obtain ⟨t', e'⟩ := hp _ hm'
    show wpAny (model prog w) A (keyLt' oneType' p.1 q.1) (fun r s' => s' = { s with heap := h' } ∧ r = decide ((k p.1).cps.toList < (k q.1).cps.toList)) (fun _ _ => False) { s with heap := h' }
    generalize k p.1 = x at e ⊢
    generalize k q.1 = y at e' ⊢
    rw [e, e', keyLt'_oneType]
    exact oneLt_str ⟨rfl, rfl⟩
theorem sorted_strs {l : Addr} {vs : List Value} {k : Value → Str} {Q : Value → Shared → Prop} (hl : s.heap.IsList l vs.toArray) (hz : vs.length ≤ sizeLine) (hp : ∀ v ∈ vs, ∃ t, v = Value.str (k v) t)
    (h : ∀ (h' : Heap) (d : Addr) (out : List Value), Srtd (fun v u => decide ((k v).cps.toList < (k u).cps.toList)) out → Stb (fun v u => decide ((k v).cps.toList < (k u).cps.toList)) out vs → (∀ b o, s.heap.get? b = some o → h'.get? b = some o) → s.heap.objs.size ≤ d → (∃ n, h'.get? d = some (seqObj "list" out.toArray n)) → Q (.ref d) { s with heap := h' }) :
    wpAny (model prog w) A (call (.builtin "sorted") [.ref l]) Q E s := by
  refine sorted_ord (swo_str k) hl hz (fun h2 h₁ a ha kk => ?_) fun out hs hb => ?_
  · exact strs_sortable (s := { s with heap := h₁ }) h2 hp
  · exact h _ _ out hs hb (fun b o e => sortedAll_old e) (Nat.le_succ _) (sortedAll_at s.heap vs out.toArray)
end
/-! ### as rules -/
/-- sorted(xs), xs a list of tuples of texts -/
def rSortedTS (K : PySem.W.Frag) : List V → Hp → VK → Prop := fun vs H Q => ∃ (a : Addr) (xs : List V) (k : V → List Str), vs = [V.ref a] ∧ SqL K H a xs ∧ (∀ x ∈ xs, ∃ t, x = V.ref t ∧ SqT K H t ((k x).map V.str)) ∧
  ∀ ys p, Srtd (fun x y => ltS (k x) (k y)) ys → ys.Perm xs → H p = none → Q (.ref p) (upd H p (.lst ys))
/-- sorted(xs), xs a list of texts -/
def rSortedSS (K : PySem.W.Frag) : List V → Hp → VK → Prop := fun vs H Q => ∃ (a : Addr) (xs : List Str), vs = [V.ref a] ∧ SqL K H a (xs.map V.str) ∧
  ∀ ys p, Srtd (fun x y : Str => decide (x.cps.toList < y.cps.toList)) ys → ys.Perm xs → H p = none → Q (.ref p) (upd H p (.lst (ys.map V.str)))
section
variable {X : Cx}
theorem cr_sortedTS (hu : X.A.units + 64 < cLine) : CallR X (.builtin "sorted") (rSortedTS X.K) := by
  intro pins s σ H vs us Q I r h
  obtain ⟨a, xs, k, rfl, hs, hx, q⟩ := h
  obtain ⟨its, rv, hl, hz⟩ := I.list hs
  obtain ⟨u, rfl, ru⟩ := vals1 r
  obtain rfl : u = Value.ref a := ru
  obtain ⟨e1, e2⟩ := refs_back rv fun x m => by
    obtain ⟨t, e, _⟩ := hx x m
    exact ⟨t, e⟩
  refine sorted_tupsS (k := fun u => k (backV u)) hu hl.isList (by rw [← rv.length]; exact hz) (fun v hv => ?_) fun h' d out h1 h2 kp hd hn => ?_
  · obtain ⟨t, rfl⟩ := e2 v hv
    have hm : V.ref t ∈ xs := by rw [e1]; exact List.mem_map.mpr ⟨_, hv, rfl⟩
    obtain ⟨t', e, ht⟩ := hx _ hm
    cases e
    obtain ⟨its2, r2, ht2, _⟩ := I.tuple ht
    exact ⟨t, its2, rfl, ht2, r2⟩
  · have h3 : ∀ u ∈ out, ∃ a, u = Value.ref a := fun u hu => e2 u (h2.perm.mem_iff.mp hu)
    obtain ⟨n, hn⟩ := hn
    have hb : (out.map backV).Perm xs := by
      rw [e1]
      exact h2.perm.map _
    refine ⟨.ref d, upd H d (.lst (out.map backV)), I.laid (t' := s.toks) kp hd ⟨?_, out, n, vals_back h3, hn⟩, rfl, q _ d (SrtO.srtd_map h1) hb (I.hok.fresh hd)⟩
    rw [hb.length_eq]
    exact hz
def strOf : Value → Str
  | .str z _ => z
  | _ => Str.empty
theorem vals_strs : ∀ {xs : List Str} {us : List Value}, Vals (xs.map V.str) us → xs = us.map strOf ∧ ∀ v ∈ us, ∃ t, v = Value.str (strOf v) t
  | [], _, r => by
    cases r
    exact ⟨rfl, fun v h => by simp at h⟩
  | x :: xs, _, r => by
    cases r with
    | cons r1 r2 =>
      obtain ⟨t, rfl⟩ := r1
      obtain ⟨e, h⟩ := vals_strs r2
      refine ⟨by rw [List.map_cons, ← e]; rfl, fun v hv => ?_⟩
      rcases List.mem_cons.mp hv with z | z
      · rw [z]
        exact ⟨t, rfl⟩
      · exact h v z
theorem strs_vals : ∀ {us : List Value}, (∀ v ∈ us, ∃ t, v = Value.str (strOf v) t) → Vals ((us.map strOf).map V.str) us
  | [], _ => .nil
  | u :: us, h => .cons (h u List.mem_cons_self) (strs_vals fun v hv => h v (List.mem_cons_of_mem _ hv))
theorem cr_sortedSS : CallR X (.builtin "sorted") (rSortedSS X.K) := by
  intro pins s σ H vs us Q I r h
  obtain ⟨a, xs, rfl, hs, q⟩ := h
  obtain ⟨its, rv, hl, hz⟩ := I.list hs
  obtain ⟨u, rfl, ru⟩ := vals1 r
  obtain rfl : u = Value.ref a := ru
  obtain ⟨e1, e2⟩ := vals_strs rv
  refine sorted_strs (k := strOf) hl.isList (by rw [← rv.length]; exact hz) e2 fun h' d out h1 h2 kp hd hn => ?_
  have h3 : ∀ u ∈ out, ∃ t, u = Value.str (strOf u) t := fun u hu => e2 u (h2.perm.mem_iff.mp hu)
  obtain ⟨n, hn⟩ := hn
  have hb : (out.map strOf).Perm xs := by
    rw [e1]
    exact h2.perm.map _
  refine ⟨.ref d, upd H d (.lst ((out.map strOf).map V.str)), I.laid (t' := s.toks) kp hd ⟨?_, out, n, strs_vals h3, hn⟩, rfl, q _ d ?_ hb (I.hok.fresh hd)⟩
  · rw [List.length_map, hb.length_eq]
    rw [List.length_map] at hz
    exact hz
  · exact List.pairwise_map.mpr h1
end
end KX
namespace AB
open PySem PySem.Spec PyProof.Rows L2 Evl KX SrtO
section
variable {γ γ' : Env} {ρ ρ' : Sto} {x y : A} {K : PySem.W.Frag} {Q : QA}
abbrev tupD (zs : List Str) : D := .tup (zs.map D.str)
theorem str_v {H : Hp} : ∀ {vs : List V} {zs : List Str}, RAs H ρ vs ((zs.map D.str).map .d) → vs = zs.map V.str
  | [], [], _ => rfl
  | v :: vs, z :: zs, r => by
    cases r with
    | cons r1 r2 =>
      rw [str_v r2]
      cases r1
      rfl
  | [], _ :: _, r => by cases r
  | _ :: _, [], r => by cases r
theorem v_str {H : Hp} : ∀ {zs : List Str}, RAs H ρ (zs.map V.str) ((zs.map D.str).map .d)
  | [] => .nil
  | z :: zs => .cons (Rep.str z) v_str
abbrev ptupD (zs : List Str) : D := .ptup (zs.map D.str)
def tupOf : Option HO → List V
  | some (.tup ws) => ws
  | some (.frz _ (.tup ws)) => ws
  | _ => []
def kOf (H : Hp) : V → List Str
  | .ref t => (tupOf (H t)).map fun v => match v with
      | .str z => z
      | _ => Str.empty
  | _ => []
theorem strs_of_v (zs : List Str) : (zs.map V.str).map (fun v => match v with
      | .str z => z
      | _ => Str.empty) = zs := by
  rw [List.map_map]
  exact (List.map_congr_left fun z _ => rfl).trans (List.map_id zs)
theorem kOf_eq {H : Hp} {t : Addr} {zs : List Str} (h : H t = some (.tup (zs.map V.str)) ∨ Zt H t (zs.map V.str)) : kOf H (.ref t) = zs := by
  show (tupOf (H t)).map _ = zs
  rcases h with h | ⟨od, _, h⟩
  · rw [h]
    exact strs_of_v zs
  · rw [h]
    exact strs_of_v zs
theorem o2_ltTS {xs ys : List Str} (q : Q (.d (.bl (ltS xs ys))) ρ) : O2 (rLtTS K) (.d (tupD xs)) (.d (tupD ys)) ρ Q := fun H v w s rv rw_ Kk k => by
  obtain ⟨p, vs, rfl, hp, rs⟩ := tup_at rv
  obtain ⟨p', ws, rfl, hp', rs'⟩ := tup_at rw_
  have e1 := str_v rs
  have e2 := str_v rs'
  subst e1 e2
  exact ⟨p, p', xs, ys, rfl, rfl, hp.sq, hp'.sq, tk_same k s (x := .d (.bl _)) (Rep.bl _) q⟩
theorem on_sortedG {mk : List Str → D} (hmk : mk = tupD ∨ mk = ptupD) {zss : List (List Str)} (l : LsA x ρ ((zss.map mk).map .d)) (q : ∀ zss', zss'.Perm zss → Srtd ltS zss' → Q (.d (.lst (zss'.map mk))) ρ) : ON (rSortedTS K) [x] ρ Q := fun H vs s rs Kk k => by
  match vs, rs with
  | [v], .cons r .nil =>
    obtain ⟨p, ws, rfl, hp, rs⟩ := l.at_ s r
    have hone : ∀ {v : V} {zs : List Str}, RA H ρ v (.d (mk zs)) → ∃ t, v = V.ref t ∧ SqT K H t (zs.map V.str) ∧ kOf H v = zs := fun {v zs} ry => by
      rcases hmk with e | e
      · rw [e] at ry
        obtain ⟨t, us, rfl, ht, rt⟩ := tup_at (show RA H ρ v (.d (.tup (zs.map D.str))) from ry)
        have e1 := str_v rt
        subst e1
        exact ⟨t, rfl, ht.sq, kOf_eq (.inr ht)⟩
      · rw [e] at ry
        obtain ⟨t, us, rfl, ht, rt⟩ := ptup_at (show RA H ρ v (.d (.ptup (zs.map D.str))) from ry)
        have e1 := str_v rt
        subst e1
        exact ⟨t, rfl, SqT.of ht, kOf_eq (.inl ht)⟩
    have hx : ∀ v ∈ ws, ∃ t, v = V.ref t ∧ SqT K H t ((kOf H v).map V.str) ∧ RA H ρ v (.d (mk (kOf H v))) := fun v hv => by
      obtain ⟨i, hi, e⟩ := List.mem_iff_getElem.mp hv
      obtain ⟨y, ey, ry⟩ := paired_at' rs (i := i) (a := v) (by rw [← e]; exact List.getElem?_eq_getElem hi)
      rw [List.getElem?_map, List.getElem?_map] at ey
      obtain ⟨d, ed, rfl⟩ := Option.map_eq_some_iff.mp ey
      obtain ⟨zs, ez, rfl⟩ := Option.map_eq_some_iff.mp ed
      obtain ⟨t, ev, ht, ek⟩ := hone ry
      exact ⟨t, ev, by rw [ek]; exact ht, by rw [ek]; exact ry⟩
    have hk : ws.map (kOf H) = zss := by
      apply List.ext_getElem?
      intro i
      rw [List.getElem?_map]
      cases e : ws[i]? with
      | none =>
        have := rs.length
        rw [List.length_map, List.length_map] at this
        have := List.getElem?_eq_none_iff.mp e
        rw [List.getElem?_eq_none (by omega)]
        rfl
      | some v =>
        obtain ⟨y, ey, ry⟩ := paired_at' rs e
        rw [List.getElem?_map, List.getElem?_map] at ey
        obtain ⟨d, ed, rfl⟩ := Option.map_eq_some_iff.mp ey
        obtain ⟨zs, ez, rfl⟩ := Option.map_eq_some_iff.mp ed
        obtain ⟨t, ev, ht, ek⟩ := hone ry
        rw [ez]
        exact congrArg some ek
    refine ⟨p, ws, kOf H, rfl, SqL.of hp, fun v hv => ?_, fun ys a hs hpm ha => ?_⟩
    · obtain ⟨t, e, h, _⟩ := hx v hv
      exact ⟨t, e, h⟩
    · have hr : RAs H ρ ys (((ys.map (kOf H)).map mk).map .d) := by
        have hm : ∀ v ∈ ys, RA H ρ v (.d (mk (kOf H v))) := fun v hv => (hx v (hpm.mem_iff.mp hv)).choose_spec.2.2
        clear hs hpm
        induction ys with
        | nil => exact .nil
        | cons y ys ih => exact .cons (hm y List.mem_cons_self) (ih fun v hv => hm v (List.mem_cons_of_mem _ hv))
      exact tk_lst s hr k (q (ys.map (kOf H)) (by rw [← hk]; exact hpm.map _) (List.pairwise_map.mpr hs)) ha
theorem on_sortedTS {zss : List (List Str)} (l : LsA x ρ ((zss.map tupD).map .d)) (q : ∀ zss', zss'.Perm zss → Srtd ltS zss' → Q (.d (.lst (zss'.map tupD))) ρ) : ON (rSortedTS K) [x] ρ Q := on_sortedG (.inl rfl) l q
theorem on_sortedPS {zss : List (List Str)} (l : LsA x ρ ((zss.map ptupD).map .d)) (q : ∀ zss', zss'.Perm zss → Srtd ltS zss' → Q (.d (.lst (zss'.map ptupD))) ρ) : ON (rSortedTS K) [x] ρ Q := on_sortedG (.inr rfl) l q
theorem on_sortedSS {zs : List Str} (l : LsA x ρ ((zs.map D.str).map .d)) (q : ∀ zs' : List Str, zs'.Perm zs → Srtd (fun x y : Str => decide (x.cps.toList < y.cps.toList)) zs' → Q (.d (.lst (zs'.map D.str))) ρ) : ON (rSortedSS K) [x] ρ Q := fun H vs s rs Kk k => by
  match vs, rs with
  | [v], .cons r .nil =>
    obtain ⟨p, ws, rfl, hp, rs⟩ := l.at_ s r
    have e1 := str_v rs
    subst e1
    exact ⟨p, zs, rfl, SqL.of hp, fun ys a hs hpm ha => tk_lst s v_str k (q ys hpm hs) ha⟩
end
end AB
set_option Elab.async false
set_option linter.all false
set_option maxRecDepth 100000
set_option maxHeartbeats 4000000
namespace AB
open PySem PySem.Spec PyProof.Rows L2 Evl KX
section
variable {γ γ' : Env} {ρ ρ' : Sto} {C : KA} {te ta tb td ty tv tx : TE} {t tt : TT} {ts tu tw : TS} {tr : TA} {g : TG} {x y : A} {K : PySem.W.Frag} {Q : QA} {vs : List Nat}
/-- a comprehension that leaves the store as it is; the new list stays in the store -/
theorem we_lcM {wi : TI} (h : WI wi γ ρ fun xs G ρ1 => ∃ f : Nat → Option D, (∀ ρx, Sub ρ1 ρx → G ρx) ∧ xs.length ≤ 50000 ∧
      (∀ i y ρx, xs[i]? = some y → Sub ρ1 ρx → WGv g vs y (wipeE γ vs) ρx fun γ2 ρ2 => ρ2 = ρx ∧ WT tt γ2 ρx fun b ρ3 => ρ3 = ρx ∧ (b = true → WE te γ2 ρx fun z ρ4 => ρ4 = ρx ∧ ∃ d, z = .d d ∧ f i = some d) ∧ (b = false → f i = none)) ∧
      ∀ L, ρ1 L = none → Q (.m L) (pu ρ1 L (.lst (((List.range xs.length).filterMap f).map .d)))) : WE (tLc wi g tt te vs) γ ρ Q := we_lc fun H σ s e R k => h H σ s e R fun H' ρ' J xs G s' g' J' ⟨f, hG, hz, ht, q⟩ => k H' ρ' J xs G s' g' J' fun L hL => by
  refine ⟨fun i acc ρx => i ≤ xs.length ∧ acc = ((List.range i).filterMap f).map .d ∧ ρx = pu ρ' L (.lst acc), ⟨Nat.zero_le _, rfl, rfl⟩, ?_, ?_, ?_⟩
  · rintro i acc ρx hi ⟨_, _, rfl⟩
    exact hG _ ((Sub.refl _).new hL)
  · rintro i y acc ρx ey ⟨hi, ea, rfl⟩ H4 σ4 v s4 e4 r4 N k4
    have hlt : i < xs.length := (List.getElem?_eq_some_iff.mp ey).1
    have hacc : acc.length < 100000 := by
      rw [ea, List.length_map]
      have := List.length_filterMap_le f (List.range i)
      rw [List.length_range] at this
      omega
    refine ht i y _ ey ((Sub.refl _).new hL) H4 σ4 v s4 e4 r4 N fun H5 ρ5 σ5 γ5 s5 g5 e5 ⟨z5, q5⟩ w5 => k4 H5 ρ5 σ5 γ5 s5 g5 e5 ?_ w5
    subst z5
    refine WT.mono q5 fun b ρ6 ⟨z6, h1, h2⟩ => ?_
    subst z6
    refine ⟨fun hb => WE.mono (h1 hb) fun z ρ7 ⟨z7, d, ez, fd⟩ => ?_, fun hb => ⟨hlt, ?_, rfl⟩⟩
    · subst z7 ez
      refine ⟨acc, pu_same, hacc, hlt, ?_, pu_pu⟩
      rw [ea, List.range_succ, List.filterMap_append, List.map_append]
      simp [fd]
    · rw [ea, List.range_succ, List.filterMap_append, List.map_append]
      simp [h2 hb]
  · rintro acc ρx ⟨_, ea, rfl⟩
    subst ea
    exact .inl (q L hL)
end
/-! ### dicts by names -/
section
variable {κ α : Type} [DecidableEq κ]
theorem valA_map {N : Type} {kf : N → κ} {gf : N → α} (inj : ∀ a b, kf a = kf b → a = b) {n : N} : ∀ {ns : List N}, n ∈ ns → valA (ns.map fun m => (kf m, gf m)) (kf n) = some (gf n)
  | [], h => by simp at h
  | m :: ns, h => by
    rw [List.map_cons]
    by_cases e : kf m = kf n
    · rw [valA_pos (by exact e), inj m n e]
    · rw [valA_neg (by exact e)]
      rcases List.mem_cons.mp h with z | z
      · exact absurd (by rw [z]) e
      · exact valA_map inj z
theorem putA_map {N : Type} [DecidableEq N] {kf : N → κ} {gf : N → α} (inj : ∀ a b, kf a = kf b → a = b) {n : N} {v : α} {ns : List N} (h : n ∈ ns) : putA (ns.map fun m => (kf m, gf m)) (kf n) v = ns.map fun m => (kf m, if m = n then v else gf m) := by
  unfold putA
  have ha : ((ns.map fun m => (kf m, gf m)).any fun kv => decide (kv.1 = kf n)) = true := by
    rw [List.any_map, List.any_eq_true]
    exact ⟨n, h, decide_eq_true rfl⟩
  rw [if_pos ha, List.map_map]
  apply List.map_congr_left
  intro m _
  show (if kf m = kf n then (kf m, v) else (kf m, gf m)) = _
  by_cases e : m = n
  · rw [if_pos (by rw [e]), if_pos e]
  · rw [if_neg (fun z => e (inj m n z)), if_neg e]
theorem putA_new {N : Type} {kf : N → κ} {gf : N → α} (inj : ∀ a b, kf a = kf b → a = b) {n : N} {v : α} {ns : List N} (h : n ∉ ns) : putA (ns.map fun m => (kf m, gf m)) (kf n) v = (ns.map fun m => (kf m, gf m)) ++ [(kf n, v)] := by
  unfold putA
  have ha : ¬ ((ns.map fun m => (kf m, gf m)).any fun kv => decide (kv.1 = kf n)) = true := by
    rw [List.any_map, List.any_eq_true]
    rintro ⟨m, hm, e⟩
    have := inj m n (of_decide_eq_true e)
    rw [this] at hm
    exact h hm
  rw [if_neg ha]
end
theorem inr_inj : ∀ a b : Str, (Sum.inr a : Key) = Sum.inr b → a = b := fun _ _ h => Sum.inr.inj h
theorem nodup_take {α : Type} {l : List α} (nd : l.Nodup) {i : Nat} (hi : i < l.length) : l[i] ∉ l.take i := fun m => by
  obtain ⟨j, hj, e⟩ := List.mem_iff_getElem.mp m
  rw [List.length_take] at hj
  rw [List.getElem_take] at e
  exact (List.pairwise_iff_getElem.mp nd) j i (by omega) hi (by omega) e
/-- a dict of numbers by names; one of own lists by names -/
def CntS (ρ : Sto) (a : Addr) (names : List Str) (cnt : Str → Int) : Prop := ρ a = some (.dK (names.map fun n => ((Sum.inr n : Key), A.d (.int (cnt n)))))
structure LinkS (ρ : Sto) (a : Addr) (names : List Str) (la : Str → Addr) (Ls : Str → List D) : Prop where
  h : ρ a = some (.dK (names.map fun n => ((Sum.inr n : Key), A.m (la n))))
  l : ∀ n, n ∈ names → ρ (la n) = some (.lst ((Ls n).map .d))
  i : ∀ n m, n ∈ names → m ∈ names → la n = la m → n = m
theorem LinkS.ne {ρ : Sto} {a : Addr} {names : List Str} {la : Str → Addr} {Ls : Str → List D} (L : LinkS ρ a names la Ls) {n : Str} (hn : n ∈ names) : la n ≠ a := fun z => by
  have := L.l n hn
  rw [z, L.h] at this
  cases this
theorem LinkS.app {ρ : Sto} {a : Addr} {names : List Str} {la : Str → Addr} {Ls : Str → List D} (L : LinkS ρ a names la Ls) {n : Str} (hn : n ∈ names) (d : D) :
    LinkS (pu ρ (la n) (.lst ((Ls n).map .d ++ [.d d]))) a names la (fun m => if m = n then Ls n ++ [d] else Ls m) := by
  refine ⟨by rw [pu_ne (Ne.symm (L.ne hn))]; exact L.h, fun m hm => ?_, L.i⟩
  by_cases e : m = n
  · subst e
    rw [pu_same, if_pos rfl, List.map_append]
    rfl
  · rw [pu_ne (fun z => e (L.i m n hm hn z)), if_neg e]
    exact L.l m hm
theorem LinkS.pu {ρ : Sto} {a b : Addr} {o : Mo} {names : List Str} {la : Str → Addr} {Ls : Str → List D} (L : LinkS ρ a names la Ls) (h : b ≠ a) (k : ∀ n, n ∈ names → la n ≠ b) : LinkS (AB.pu ρ b o) a names la Ls :=
  ⟨by rw [pu_ne (Ne.symm h)]; exact L.h, fun n hn => by rw [pu_ne (k n hn)]; exact L.l n hn, L.i⟩
theorem cnt_put {ρ : Sto} {a : Addr} {names : List Str} {cnt : Str → Int} (h : CntS ρ a names cnt) (hz : names.length < 100000) {n : Str} (hn : n ∈ names) (v : Int) : DPA (.m a) (.d (.str n)) (.d (.int v)) ρ (pu ρ a (.dK (names.map fun m => ((Sum.inr m : Key), A.d (.int (if m = n then v else cnt m)))))) := by
  refine .inl ⟨a, _, .inr n, rfl, h, rfl, by rw [List.length_map]; exact hz, ?_⟩
  rw [putA_map (kf := fun m => (Sum.inr m : Key)) inr_inj hn]
  congr 2
  apply List.map_congr_left
  intro m _
  by_cases e : m = n
  · rw [if_pos e, if_pos e]
  · rw [if_neg e, if_neg e]
theorem cnt_get {ρ : Sto} {a : Addr} {names : List Str} {cnt : Str → Int} (h : CntS ρ a names cnt) {n : Str} (hn : n ∈ names) : DGA (.m a) (.d (.str n)) ρ (some (.d (.int (cnt n)))) :=
  .inl ⟨a, _, .inr n, rfl, h, rfl, (valA_map (kf := fun m => (Sum.inr m : Key)) (gf := fun m => A.d (.int (cnt m))) inr_inj hn).symm⟩
theorem link_get {ρ : Sto} {a : Addr} {names : List Str} {la : Str → Addr} {Ls : Str → List D} (L : LinkS ρ a names la Ls) {n : Str} (hn : n ∈ names) : DGA (.m a) (.d (.str n)) ρ (some (.m (la n))) :=
  .inl ⟨a, _, .inr n, rfl, L.h, rfl, (valA_map (kf := fun m => (Sum.inr m : Key)) (gf := fun m => A.m (la m)) inr_inj hn).symm⟩
section
variable {γ γ' : Env} {ρ ρ' : Sto} {C : KA} {te ta tb td ty tv tx : TE} {t tt : TT} {ts tu tw : TS} {tr : TA} {g : TG} {x y : A} {K : PySem.W.Frag} {Q : QA} {vs : List Nat}
/-- {name: v for name in names}, v data -/
theorem we_dcD {wi : TI} (h : WI wi γ ρ fun xs G ρ1 => ∃ (names : List Str) (f : Str → D), xs = (names.map D.str).map .d ∧ names.Nodup ∧ names.length ≤ 50000 ∧ (∀ ρx, Sub ρ1 ρx → G ρx) ∧
      (∀ n ρx, n ∈ names → Sub ρ1 ρx → WGv g vs (.d (.str n)) (wipeE γ vs) ρx fun γ2 ρ2 => ρ2 = ρx ∧ WT tt γ2 ρx fun b ρ3 => b = true ∧ ρ3 = ρx ∧ WE ty γ2 ρx fun kx ρ4 => kx = .d (.str n) ∧ ρ4 = ρx ∧ WE tv γ2 ρx fun z ρ5 => z = .d (f n) ∧ ρ5 = ρx) ∧
      ∀ L, ρ1 L = none → Q (.m L) (pu ρ1 L (.dK (names.map fun n => ((Sum.inr n : Key), A.d (f n)))))) : WE (tDc wi g tt ty tv vs) γ ρ Q := we_dc fun H σ s e R k => h H σ s e R fun H' ρ' J xs G s' g' J' ⟨names, f, ex, nd, hz, hG, ht, q⟩ => k H' ρ' J xs G s' g' J' fun L hL => by
  subst ex
  have hlen : ((names.map D.str).map A.d).length = names.length := by simp
  refine ⟨fun i ρx => i ≤ names.length ∧ ρx = pu ρ' L (.dK ((names.take i).map fun n => ((Sum.inr n : Key), A.d (f n)))), ⟨Nat.zero_le _, rfl⟩, ?_, ?_, ?_⟩
  · rintro i ρx hi ⟨_, rfl⟩
    exact hG _ ((Sub.refl _).new hL)
  · rintro i y ρx ey ⟨hi, rfl⟩ H4 σ4 v s4 e4 r4 N k4
    have hlt : i < names.length := by
      have := (List.getElem?_eq_some_iff.mp ey).1
      omega
    have en : names[i]? = some names[i] := List.getElem?_eq_getElem hlt
    rw [List.getElem?_map, List.getElem?_map, en] at ey
    cases Option.some.inj ey
    have hm : names[i] ∈ names := List.getElem_mem hlt
    have hnew : names[i] ∉ names.take i := nodup_take nd hlt
    refine ht names[i] _ hm ((Sub.refl _).new hL) H4 σ4 v s4 e4 r4 N fun H5 ρ5 σ5 γ5 s5 g5 e5 ⟨z5, q5⟩ w5 => k4 H5 ρ5 σ5 γ5 s5 g5 e5 ?_ w5
    subst z5
    refine WT.mono q5 fun b ρ6 ⟨hb, z6, h1⟩ => ?_
    subst z6 hb
    refine ⟨fun _ => WE.mono h1 fun kx ρ7 ⟨ek, z7, h2⟩ => ?_, fun z => by cases z⟩
    subst ek z7
    refine WE.mono h2 fun z ρ8 ⟨ez, z8⟩ => ?_
    subst ez z8
    refine ⟨_, .inr names[i], rfl, pu_same, by rw [List.length_map, List.length_take]; omega, hlt, ?_⟩
    rw [pu_pu, putA_new (kf := fun m => (Sum.inr m : Key)) (gf := fun m => A.d (f m)) inr_inj hnew, List.take_succ, en, List.map_append]
    rfl
  · rintro ρx ⟨_, rfl⟩
    rw [hlen, List.take_length]
    exact q L hL
/-- {name: [] for name in names} -/
theorem we_dcL {wi : TI} (h : WI wi γ ρ fun xs G ρ1 => ∃ (names : List Str), xs = (names.map D.str).map .d ∧ names.Nodup ∧ names.length ≤ 50000 ∧ (∀ ρx, Sub ρ1 ρx → G ρx) ∧
      (∀ n ρx, n ∈ names → Sub ρ1 ρx → WGv g vs (.d (.str n)) (wipeE γ vs) ρx fun γ2 ρ2 => ρ2 = ρx ∧ WT tt γ2 ρx fun b ρ3 => b = true ∧ ρ3 = ρx ∧ WE ty γ2 ρx fun kx ρ4 => kx = .d (.str n) ∧ ρ4 = ρx ∧ WE tv γ2 ρx fun z ρ5 => ∃ a, ρx a = none ∧ z = .m a ∧ ρ5 = pu ρx a (.lst [])) ∧
      ∀ L ρx la, ρ1 L = none → Sub ρ1 ρx → (∀ n, n ∈ names → ρ1 (la n) = none) → LinkS ρx L names la (fun _ => []) → Q (.m L) ρx) : WE (tDc wi g tt ty tv vs) γ ρ Q := we_dc fun H σ s e R k => h H σ s e R fun H' ρ' J xs G s' g' J' ⟨names, ex, nd, hz, hG, ht, q⟩ => k H' ρ' J xs G s' g' J' fun L hL => by
  subst ex
  have hlen : ((names.map D.str).map A.d).length = names.length := by simp
  refine ⟨fun i ρx => i ≤ names.length ∧ Sub ρ' ρx ∧ ∃ la, (∀ n, n ∈ names.take i → ρ' (la n) = none) ∧ LinkS ρx L (names.take i) la (fun _ => []), ⟨Nat.zero_le _, (Sub.refl _).new hL, fun _ => 0, fun n hn => by simp at hn, ⟨pu_same, fun n hn => by simp at hn, fun n m hn => by simp at hn⟩⟩, ?_, ?_, ?_⟩
  · rintro i ρx hi ⟨_, sb, _⟩
    exact hG _ sb
  · rintro i y ρx ey ⟨hi, sb, la, hla, LK⟩ H4 σ4 v s4 e4 r4 N k4
    have hlt : i < names.length := by
      have := (List.getElem?_eq_some_iff.mp ey).1
      omega
    have en : names[i]? = some names[i] := List.getElem?_eq_getElem hlt
    rw [List.getElem?_map, List.getElem?_map, en] at ey
    cases Option.some.inj ey
    have hm : names[i] ∈ names := List.getElem_mem hlt
    have hnew : names[i] ∉ names.take i := nodup_take nd hlt
    refine ht names[i] _ hm sb H4 σ4 v s4 e4 r4 N fun H5 ρ5 σ5 γ5 s5 g5 e5 ⟨z5, q5⟩ w5 => k4 H5 ρ5 σ5 γ5 s5 g5 e5 ?_ w5
    subst z5
    refine WT.mono q5 fun b ρ6 ⟨hb, z6, h1⟩ => ?_
    subst z6 hb
    refine ⟨fun _ => WE.mono h1 fun kx ρ7 ⟨ek, z7, h2⟩ => ?_, fun z => by cases z⟩
    subst ek z7
    refine WE.mono h2 fun z ρ8 ⟨a, na, ez, z8⟩ => ?_
    subst ez z8
    have naL : a ≠ L := fun z => by rw [z, LK.h] at na; cases na
    have na' : ρ' a = none := by
      cases e : ρ' a with
      | none => rfl
      | some o =>
        rw [sb a o e] at na
        cases na
    have ta : names.take (i + 1) = names.take i ++ [names[i]] := by rw [List.take_succ, en]; rfl
    refine ⟨_, .inr names[i], rfl, by rw [pu_ne (Ne.symm naL)]; exact LK.h, by rw [List.length_map, List.length_take]; omega, hlt, (sb.new na').new hL, fun m => if m = names[i] then a else la m, ?_, ?_⟩
    · intro n hn
      rw [ta] at hn
      show ρ' (if n = names[i] then a else la n) = none
      by_cases e : n = names[i]
      · rw [if_pos e]
        exact na'
      · rw [if_neg e]
        rcases List.mem_append.mp hn with z | z
        · exact hla n z
        · exact absurd (List.mem_singleton.mp z) e
    · refine ⟨?_, fun n hn => ?_, fun n m hn hm' e => ?_⟩
      · rw [pu_same, putA_new (kf := fun m => (Sum.inr m : Key)) (gf := fun m => A.m (la m)) inr_inj hnew, ta, List.map_append]
        congr 3
        · apply List.map_congr_left
          intro m hm2
          rw [if_neg (fun z => hnew (by rw [← z]; exact hm2))]
        · show [((Sum.inr names[i] : Key), A.m a)] = [((Sum.inr names[i] : Key), A.m (if names[i] = names[i] then a else la names[i]))]
          rw [if_pos rfl]
      · rw [ta] at hn
        show pu (pu _ a (.lst [])) L _ (if n = names[i] then a else la n) = _
        by_cases e : n = names[i]
        · rw [if_pos e, pu_ne naL, pu_same]
          rfl
        · rcases List.mem_append.mp hn with z | z
          · rw [if_neg e, pu_ne (LK.ne z), pu_ne (fun w => by have := LK.l n z; rw [w, na] at this; cases this)]
            exact LK.l n z
          · exact absurd (List.mem_singleton.mp z) e
      · rw [ta] at hn hm'
        have e : (if n = names[i] then a else la n) = (if m = names[i] then a else la m) := e
        have inOld : ∀ {q}, q ∈ names.take i ++ [names[i]] → q ≠ names[i] → q ∈ names.take i := fun hq hne => by
          rcases List.mem_append.mp hq with z | z
          · exact z
          · exact absurd (List.mem_singleton.mp z) hne
        by_cases e1 : n = names[i]
        · by_cases e2 : m = names[i]
          · rw [e1, e2]
          · rw [if_pos e1, if_neg e2] at e
            have := LK.l m (inOld hm' e2)
            rw [← e, na] at this
            cases this
        · by_cases e2 : m = names[i]
          · rw [if_neg e1, if_pos e2] at e
            have := LK.l n (inOld hn e1)
            rw [e, na] at this
            cases this
          · rw [if_neg e1, if_neg e2] at e
            exact LK.i n m (inOld hn e1) (inOld hm' e2) e
  · rintro ρx ⟨_, sb, la, hla, LK⟩
    rw [hlen] at hla LK
    rw [List.take_length] at hla LK
    exact q L ρx la hL sb hla LK
end
end AB
set_option Elab.async false
set_option linter.all false
set_option maxRecDepth 100000
set_option maxHeartbeats 4000000
/-! y = {k: v for ..}: the dict goes straight into the slot. -/
namespace KX
open PySem PySem.Spec PyProof.Rows L2
section
variable {X : Cx} {j : Nat} {x : Str} {px p q : Pos} {ke ve tgt src : Expr} {fs : List Expr} {sc : Scope} {bs : List (Str × Nat)} {ti : TI} {tg : TG} {tf : TT} {t1 t2 : TE}
abbrev dcE (ke ve tgt src : Expr) (fs : List Expr) (sc : Scope) (p : Pos) : Expr := .DictComp ke ve [⟨tgt, src, fs, 0⟩] sc p
theorem sw_dict {env : PySem.Env} {n : Nat} {gs : List Comprehension} (h1 : env.scope.kind = .function) (h2 : env.scope.names.lookup x = some .local) (h3 : (px.line == p.line) = true)
    (h4 : (sc.names.any fun (m, k) => m == x && (k == .local || k == .cell)) = false) : swapsWith (.DictComp ke ve gs sc p) (some (.Name x px)) n env = pure true := by
  have k1 : env.kindOf x = some .local := h2
  have k2 : env.blockKind = .function := by
    unfold Env.blockKind
    rw [h1]
    rfl
  unfold swapsWith
  simp only [k2, k1, h4, h3, Expr.pos]
  rfl
theorem ps_setDc (c : X.calm = true) (nd : X.N.Nodup) (hx : X.N[j]? = some x) (hl : X.env.scope.names.lookup x = some .local) (sw : swapsWith (dcE ke ve tgt src fs sc p) (some (.Name x px)) q.line X.env = pure true)
    (hi : PI X tgt src ti) (ok : BlkOk X.N X.env.scope sc bs) (hg : ∀ (s : Shared) (H : Hp) (C : Addr) (l : List (Str × Addr)) (fp : List Addr), PG (X.blk s H sc (compEnvC sc l C X.env) fp) tgt tg)
    (hf : ∀ (s : Shared) (H : Hp) (C : Addr) (l : List (Str × Addr)) (fp : List Addr), PTs (X.blk s H sc (compEnvC sc l C X.env) fp) fs tf) (hk : ∀ (s : Shared) (H : Hp) (C : Addr) (l : List (Str × Addr)) (fp : List Addr), PE (X.blk s H sc (compEnvC sc l C X.env) fp) ke t1)
    (hv : ∀ (s : Shared) (H : Hp) (C : Addr) (l : List (Str × Addr)) (fp : List Addr), PE (X.blk s H sc (compEnvC sc l C X.env) fp) ve t2) (hs : ∀ y, foldedSetIterable src X.env y = pure y := by intro _; rfl) :
    PS X (.Assign [.Name x px] (dcE ke ve tgt src fs sc p) q) (tAsg (tDc ti tg tf t1 t2 (bs.map (·.2))) (gName j)) := by
  constructor
  intro pins s σ H D I h
  rw [exec_Assign_Name_used _ _ _ _ sw]
  refine wpAny_bind (wpAny_standAt (wpAny_bind ?_))
  have h' : tDc ti tg tf t1 t2 (bs.map (·.2)) σ H (fun v H1 => gName j v σ H1 D.nx) := h
  have core := fun Qf use Q hq hh => dc_core (X := X) (pins := pins) (s := s) (σ := σ) (H := H) (pos := p) (pos' := firstIterPos [⟨tgt, src, fs, 0⟩] p) (use := use) (Qf := Qf) (Q := Q) c nd I hi ok hg hf hk hv hs hh hq
  refine wpAny_bind (thn (core (fun _ s' => SP X pins D .next s') (some (assign (.Name x px) X.env)) _ (fun L C s' m H' I' z hn f => ?_) h') fun _ s' hq => wpAny_pure (wpAny_pure hq))
  refine wpAny_assign_Name (store_ok2 (v := V.ref L) I' nd hx (.inl hl) rfl (fun s2 I2 ⟨a, sb, ha⟩ => ?_) (.inr hl))
  obtain ⟨g0, g1, g2, g3, g4, g5⟩ := f
  refine ⟨m, hn.sameBut sb ?_, fun h3 sb3 => ⟨_, H', I2.turned (t' := s2.toks) (fun b o hb e => (sb3.2 b hb).trans e) g0 g1 g3 g4 g5, z⟩⟩
  rcases ha with w | w
  · rw [w]
    exact g1
  · exact fun e => g4 x a w e.symm
end
end KX
set_option Elab.async false
set_option linter.all false
set_option maxRecDepth 100000
set_option maxHeartbeats 4000000
namespace AB
open PySem PySem.Spec PyProof.Rows L2 Evl KX
section
variable {γ γ' : Env} {ρ ρ' : Sto} {tr : TA} {x : A} {K : PySem.W.Frag}
theorem wi_rev {Q : List A → (Sto → Prop) → Sto → Prop} (h : WA tr γ ρ fun ys ρ1 => ∃ x xs, ys = [x] ∧ LsA x ρ1 xs ∧ Q xs.reverse (fun ρ' => LsA x ρ' xs) ρ1) : WI (iRev K tr) γ ρ Q := fun H σ s e R k => h H σ s e _ fun H1 ρ1 us ys s1 g1 rs ⟨x, xs, ey, l, q⟩ => by
  subst ey
  match us, rs with
  | [u], .cons rv .nil =>
    obtain ⟨p, vs, rfl, hp, rl⟩ := l.at_ s1 rv
    refine ⟨p, vs, rfl, SqL.of hp, ?_⟩
    rw [rl.length]
    refine k H1 ρ1 _ xs.reverse (fun ρ' => LsA x ρ' xs) s1 g1 ⟨fun i H2 ρ2 hi s2 g2 l2 => ?_, fun i H2 ρ2 y H3 hi s2 g2 l2 yl => ?_, fun H2 ρ2 s2 g2 l2 => by rw [List.length_reverse]; exact Nat.le_refl _⟩ q
    · rw [List.length_reverse] at hi
      obtain ⟨p', vs', ep, hp', rs'⟩ := l2.at_ s2 (rv.step g2)
      cases ep
      have hlen := rs'.length
      exact ⟨hi, vs', vs'[xs.length - 1 - i]'(by omega), SqL.of hp', List.getElem?_eq_getElem _⟩
    · rw [List.length_reverse] at hi
      obtain ⟨p', vs', ep, hp', rs'⟩ := l2.at_ s2 (rv.step g2)
      cases ep
      obtain ⟨rfl, yl⟩ := yl
      obtain ⟨z, ez, rz⟩ := paired_at' rs' (yl vs' (SqL.of hp'))
      exact ⟨s2, Step.refl _ _, z, by rw [List.getElem?_reverse hi]; exact ez, rz⟩
end
/-! ### rows: a number for each name -/
section
variable {N : Type} [DecidableEq N]
def IsMax (S : Int → Prop) (v : Int) : Prop := S v ∧ ∀ u, S u → u ≤ v
structure RowOk (row : List (N × Int)) (S : N → Int → Prop) : Prop where
  nd : (row.map Prod.fst).Nodup
  mx : ∀ p, p ∈ row → IsMax (S p.1) p.2
  all : ∀ x u, S x u → x ∈ row.map Prod.fst
theorem valA_none {α : Type} {row : List (N × α)} {x : N} : valA row x = none ↔ x ∉ row.map Prod.fst := by
  induction row with
  | nil => simp [valA]
  | cons p row ih =>
    by_cases e : p.1 = x
    · rw [valA_pos e]
      simp [e]
    · rw [valA_neg e, ih]
      simp [Ne.symm e, show ¬ x = p.1 from fun z => e z.symm]
theorem valA_mem {α : Type} {row : List (N × α)} {x : N} {v : α} (h : valA row x = some v) : (x, v) ∈ row := by
  induction row with
  | nil => simp [valA] at h
  | cons p row ih =>
    by_cases e : p.1 = x
    · rw [valA_pos e] at h
      cases h
      rw [← e]
      exact List.mem_cons_self
    · rw [valA_neg e] at h
      exact List.mem_cons_of_mem _ (ih h)
theorem valA_of {α : Type} {row : List (N × α)} (nd : (row.map Prod.fst).Nodup) {x : N} {v : α} (h : (x, v) ∈ row) : valA row x = some v := by
  induction row with
  | nil => simp at h
  | cons p row ih =>
    rw [List.map_cons, List.nodup_cons] at nd
    rcases List.mem_cons.mp h with e | e
    · rw [valA_pos (by rw [← e]), ← e]
    · have : ¬ p.1 = x := fun z => nd.1 (by rw [z]; exact List.mem_map.mpr ⟨_, e, rfl⟩)
      rw [valA_neg this]
      exact ih nd.2 e
theorem row_put {row : List (N × Int)} {S : N → Int → Prop} (h : RowOk row S) (h0 : ∀ x u, S x u → 0 ≤ u) {x : N} {g : Int} (hg : 0 ≤ g) :
    RowOk (putA row x (if (valA row x).getD 0 > g then (valA row x).getD 0 else g)) (fun y u => S y u ∨ (y = x ∧ u = g)) := by
  unfold putA
  cases e : valA row x with
  | none =>
    have nx := valA_none.mp e
    have ha : ¬ (row.any fun kv => decide (kv.1 = x)) = true := by
      rw [List.any_eq_true]
      rintro ⟨p, hp, z⟩
      exact nx (List.mem_map.mpr ⟨p, hp, of_decide_eq_true z⟩)
    have nS : ∀ u, ¬ S x u := fun u hu => nx (h.all x u hu)
    rw [if_neg ha]
    have hv : (if (none : Option Int).getD 0 > g then (none : Option Int).getD 0 else g) = g := if_neg (by show ¬ (0 : Int) > g; omega)
    rw [hv]
    refine ⟨?_, fun p hp => ?_, fun y u hu => ?_⟩
    · rw [List.map_append, List.nodup_append]
      refine ⟨h.nd, by simp, fun a ha b hb z => ?_⟩
      rw [List.map_cons, List.map_nil, List.mem_singleton] at hb
      rw [z, hb] at ha
      exact nx ha
    · rcases List.mem_append.mp hp with q | q
      · obtain ⟨m1, m2⟩ := h.mx p q
        have hne : p.1 ≠ x := fun z => nx (by rw [← z]; exact List.mem_map.mpr ⟨p, q, rfl⟩)
        exact ⟨.inl m1, fun u hu => hu.elim (m2 u) fun z => absurd z.1 hne⟩
      · rw [List.mem_singleton.mp q]
        exact ⟨.inr ⟨rfl, rfl⟩, fun u hu => hu.elim (fun z => absurd z (nS u)) fun z => by rw [z.2]; exact Int.le_refl _⟩
    · rw [List.map_append]
      rcases hu with z | z
      · exact List.mem_append_left _ (h.all y u z)
      · rw [z.1]
        exact List.mem_append_right _ (by simp)
  | some v =>
    have hm := valA_mem e
    have ha : (row.any fun kv => decide (kv.1 = x)) = true := by
      rw [List.any_eq_true]
      exact ⟨_, hm, decide_eq_true rfl⟩
    rw [if_pos ha]
    have hk : ((row.map fun kv => if kv.1 = x then (kv.1, if (some v).getD 0 > g then (some v).getD 0 else g) else kv).map Prod.fst) = row.map Prod.fst := by
      rw [List.map_map]
      apply List.map_congr_left
      intro kv _
      show (if kv.1 = x then (kv.1, _) else kv).1 = kv.1
      split <;> rfl
    obtain ⟨v1, v2⟩ := h.mx _ hm
    refine ⟨by rw [hk]; exact h.nd, fun p hp => ?_, fun y u hu => ?_⟩
    · obtain ⟨kv, hkv, rfl⟩ := List.mem_map.mp hp
      by_cases c : kv.1 = x
      · rw [if_pos c]
        show IsMax (fun u => S kv.1 u ∨ (kv.1 = x ∧ u = g)) (if v > g then v else g)
        have ev : kv = (x, v) := by
          have q := valA_of h.nd (x := kv.1) (v := kv.2) hkv
          rw [c, e] at q
          cases q
          rw [← c]
        by_cases d : v > g
        · rw [if_pos d]
          exact ⟨.inl (by rw [c]; exact v1), fun u hu => hu.elim (fun z => v2 u (by rw [c] at z; exact z)) fun z => by rw [z.2]; omega⟩
        · rw [if_neg d]
          exact ⟨.inr ⟨c, rfl⟩, fun u hu => hu.elim (fun z => by have := v2 u (by rw [c] at z; exact z); show u ≤ g; have h2 : (x, v).2 = v := rfl; omega) fun z => by rw [z.2]; exact Int.le_refl _⟩
      · rw [if_neg c]
        obtain ⟨m1, m2⟩ := h.mx kv hkv
        exact ⟨.inl m1, fun u hu => hu.elim (m2 u) fun z => absurd z.1 c⟩
    · rw [hk]
      rcases hu with z | z
      · exact h.all y u z
      · rw [z.1]
        exact List.mem_map.mpr ⟨_, hm, rfl⟩
/-- the same row, as a dict of the store | as data -/
def rowK (row : List (Str × Int)) : List (Key × A) := row.map fun p => ((Sum.inr p.1 : Key), A.d (.int p.2))
def rowD (row : List (Str × Int)) : D := .dic (row.map fun p => (Sum.inr p.1 : Key)) (row.map fun p => D.int p.2)
theorem rowK_val (x : Str) : ∀ row : List (Str × Int), valA (rowK row) (Sum.inr x : Key) = (valA row x).map fun v => A.d (.int v)
  | [] => rfl
  | p :: row => by
    show valA (((Sum.inr p.1 : Key), A.d (.int p.2)) :: rowK row) (Sum.inr x : Key) = _
    by_cases e : p.1 = x
    · rw [valA_pos (by rw [e]), valA_pos e]
      rfl
    · rw [valA_neg (fun z => e (Sum.inr.inj z)), valA_neg e]
      exact rowK_val x row
theorem rowK_put (row : List (Str × Int)) (x : Str) (v : Int) : putA (rowK row) (Sum.inr x : Key) (A.d (.int v)) = rowK (putA row x v) := by
  unfold putA rowK
  have ha : ((row.map fun p => ((Sum.inr p.1 : Key), A.d (.int p.2))).any fun kv => decide (kv.1 = Sum.inr x)) = row.any fun kv => decide (kv.1 = x) := by
    rw [List.any_map]
    congr 1
    funext p
    exact decide_eq_decide.mpr ⟨fun z => Sum.inr.inj z, fun z => by show Sum.inr p.1 = Sum.inr x; rw [z]⟩
  rw [ha]
  split
  · rw [List.map_map, List.map_map]
    apply List.map_congr_left
    intro p _
    show (if (Sum.inr p.1 : Key) = Sum.inr x then ((Sum.inr p.1 : Key), A.d (.int v)) else ((Sum.inr p.1 : Key), A.d (.int p.2))) = _
    by_cases e : p.1 = x
    · rw [if_pos (by rw [e])]
      show _ = ((Sum.inr (if p.1 = x then (p.1, v) else p).1 : Key), A.d (.int (if p.1 = x then (p.1, v) else p).2))
      rw [if_pos e]
    · rw [if_neg (fun z => e (Sum.inr.inj z))]
      show _ = ((Sum.inr (if p.1 = x then (p.1, v) else p).1 : Key), A.d (.int (if p.1 = x then (p.1, v) else p).2))
      rw [if_neg e]
  · rw [List.map_append]
    rfl
theorem rowK_zip : ∀ row : List (Str × Int), rowK row = (row.map fun p => (Sum.inr p.1 : Key)).zip ((row.map fun p => D.int p.2).map A.d)
  | [] => rfl
  | p :: row => by
    show ((Sum.inr p.1 : Key), A.d (.int p.2)) :: rowK row = _
    rw [rowK_zip row]
    rfl
end
end AB
set_option Elab.async false
set_option linter.all false
set_option maxRecDepth 100000
set_option maxHeartbeats 4000000
/-! A dict of the store, locked while it is walked. -/
namespace AB
open PySem PySem.Spec PyProof.Rows L2 Evl KX
section
variable {γ γ' : Env} {ρ ρ' : Sto} {te : TE} {x : A} {K : PySem.W.Frag} {Q : QA}
theorem we_lock {a : Addr} {kvs : List (Key × A)} (ha : ρ a = some (.dK kvs)) (h : ∀ (o : Obj) (ws : List (Key × V)), WE te γ (pu ρ a (.fz o ws kvs)) fun x ρ1 => ρ1 a = some (.fz o ws kvs) ∧ Q x (pu ρ1 a (.dK kvs))) : WE (tLockE te) γ ρ Q := fun H σ s e Kk k => by
  obtain ⟨ws, ew, r⟩ := s a _ ha
  refine ⟨a, _, ew, trivial, fun od => ?_⟩
  obtain ⟨g1, s1⟩ := s.put (u := .frz od (.dK ws)) (o := .fz od ws kvs) ha fun H' ρ' g e => ⟨e, Paired.mono (fun _ _ r => ⟨r.1, r.2.step g⟩) r⟩
  refine h od ws _ σ s1 (se_step g1 e) _ fun H2 ρ2 v x s2 g2 rv ⟨e2, q⟩ => ?_
  obtain ⟨e3, r3⟩ := s2 a _ e2
  obtain ⟨g4, s4⟩ := s2.put (u := .dK ws) (o := .dK kvs) e2 fun H' ρ' g e => ⟨ws, e, Paired.mono (fun _ _ r => ⟨r.1, r.2.step g⟩) r3⟩
  exact ⟨e3, k _ _ v x s4 ((g1.trans g2).trans g4) (rv.step g4) q⟩
theorem ws_lock {ts : TS} {C : KA} {a : Addr} {kvs : List (Key × A)} (ha : ρ a = some (.dK kvs)) (h : ∀ (o : Obj) (ws : List (Key × V)), WS ts γ (pu ρ a (.fz o ws kvs)) { nx := fun γ1 ρ1 => ρ1 a = some (.fz o ws kvs) ∧ C.nx γ1 (pu ρ1 a (.dK kvs)), rt := fun x ρ1 => ρ1 a = some (.fz o ws kvs) ∧ C.rt x (pu ρ1 a (.dK kvs)), bk := fun γ1 ρ1 => ρ1 a = some (.fz o ws kvs) ∧ C.bk γ1 (pu ρ1 a (.dK kvs)), ct := fun γ1 ρ1 => ρ1 a = some (.fz o ws kvs) ∧ C.ct γ1 (pu ρ1 a (.dK kvs)) }) : WS (tLock ts) γ ρ C := fun H σ s e D k => by
  obtain ⟨ws, ew, r⟩ := s a _ ha
  refine ⟨a, _, ew, trivial, fun od => ?_⟩
  obtain ⟨g1, s1⟩ := s.put (u := .frz od (.dK ws)) (o := .fz od ws kvs) ha fun H' ρ' g e => ⟨e, Paired.mono (fun _ _ r => ⟨r.1, r.2.step g⟩) r⟩
  have back : ∀ {H2 : Hp} {ρ2 : Sto}, Sat H2 ρ2 → ρ2 a = some (.fz od ws kvs) → H2 a = some (.frz od (.dK ws)) ∧ Step H2 ρ2 (upd H2 a (.dK ws)) (pu ρ2 a (.dK kvs)) ∧ Sat (upd H2 a (.dK ws)) (pu ρ2 a (.dK kvs)) := fun {H2 ρ2} s2 e2 => by
    obtain ⟨e3, r3⟩ := s2 a _ e2
    obtain ⟨g4, s4⟩ := s2.put (u := .dK ws) (o := .dK kvs) e2 fun H' ρ' g e => ⟨ws, e, Paired.mono (fun _ _ r => ⟨r.1, r.2.step g⟩) r3⟩
    exact ⟨e3, g4, s4⟩
  have tn : ∀ {q : Env → Sto → Prop} {N : L2.St → Hp → Prop}, Tn H ρ q N → Tn (upd H a (.frz od (.dK ws))) (pu ρ a (.fz od ws kvs)) (fun γ1 ρ1 => ρ1 a = some (.fz od ws kvs) ∧ q γ1 (pu ρ1 a (.dK kvs))) (fun σ' H' => H' a = some (.frz od (.dK ws)) ∧ N σ' (upd H' a (.dK ws))) := fun {q N} kk H2 ρ2 σ2 γ2 s2 g2 e2 ⟨e3, q2⟩ => by
    obtain ⟨e4, g4, s4⟩ := back s2 e3
    exact ⟨e4, kk _ _ σ2 γ2 s4 ((g1.trans g2).trans g4) (se_step g4 e2) q2⟩
  refine h od ws _ σ s1 (se_step g1 e) _ ⟨tn k.nx, fun H2 ρ2 v x s2 g2 rv ⟨e3, q2⟩ => ?_, tn k.bk, tn k.ct⟩
  obtain ⟨e4, g4, s4⟩ := back s2 e3
  exact ⟨e4, k.rt _ _ v x s4 ((g1.trans g2).trans g4) (rv.step g4) q2⟩
/-- the pairs of a locked dict of the store -/
theorem wi_itemsM {Q : List A → (Sto → Prop) → Sto → Prop} (h : WE te γ ρ fun x ρ1 => ∃ a o ws, ∃ (l : List (Key × D)), x = .m a ∧ ρ1 a = some (.fz o ws (l.map fun p => (p.1, A.d p.2))) ∧ Q (l.map fun p => .d (.ptup [keyD p.1, p.2])) (fun ρ' => ρ' a = some (.fz o ws (l.map fun p => (p.1, A.d p.2)))) ρ1) : WI (iItems te) γ ρ Q := fun H σ s e R k => h H σ s e _ fun H1 ρ1 v x s1 g1 rv ⟨a, o, ws, l, ex, ea, q⟩ => by
  subst ex
  cases (show v = .ref a from rv)
  obtain ⟨e1, r1⟩ := s1 a _ ea
  have hl : (l.map fun p => A.d (.ptup [keyD p.1, p.2])).length = ws.length := by rw [r1.length, List.length_map, List.length_map]
  refine ⟨a, o, ws, rfl, e1, k H1 ρ1 _ _ (fun ρ' => ρ' a = some (.fz o ws (l.map fun p => (p.1, A.d p.2)))) s1 g1 ⟨fun i H2 ρ2 hi s2 g2 l2 => ⟨(s2 a _ l2).1, by omega⟩, fun i H2 ρ2 y H3 hi s2 g2 l2 yl => ?_, fun H2 ρ2 s2 g2 l2 => ⟨(s2 a _ l2).1, by omega⟩⟩ q⟩
  obtain ⟨T, k', w, ek, rfl, hT, rfl⟩ := yl
  obtain ⟨g3, s3⟩ := s2.new (u := .tup [kV k', w]) hT
  obtain ⟨e2, r2⟩ := s2 a _ l2
  obtain ⟨q2, eq2, hk, hw⟩ := paired_at' r2 ek
  rw [List.getElem?_map] at eq2
  obtain ⟨p, ep, rfl⟩ := Option.map_eq_some_iff.mp eq2
  have hk' : k' = p.1 := hk
  subst hk'
  refine ⟨s3, g3, .d (.ptup [keyD p.1, p.2]), by rw [List.getElem?_map, ep]; rfl, .ptup (vs := [kV p.1, w]) (by rw [hf_out (s2.free hT), upd_same]) rfl fun j v2 d2 h1 h2 => ?_⟩
  match j, h1, h2 with
  | 0, h1, h2 =>
    cases Option.some.inj h1
    cases Option.some.inj h2
    exact rep_key p.1
  | 1, h1, h2 =>
    cases Option.some.inj h1
    cases Option.some.inj h2
    exact Rep.mono g3 hw
  | j + 2, h1, h2 => simp at h1
end
end AB
set_option Elab.async false
set_option linter.all false
set_option maxRecDepth 100000
set_option maxHeartbeats 4000000
/-! More readings on data: None, truth, sorts. -/
namespace AB
open PySem PySem.Spec PyProof.Rows L2 Evl KX
section
variable {γ γ' : Env} {ρ ρ' : Sto} {C : KA} {te ta tb td ty tv tx : TE} {t tt : TT} {ts tu tw : TS} {tr : TA} {g : TG} {x y : A} {K : PySem.W.Frag} {Q : QA} {vs : List Nat}
def isNon : A → Bool
  | .d .non => true
  | _ => false
theorem ra_non {H : Hp} {v : V} (r : RA H ρ v x) : decide (v = .non) = isNon x := by
  cases x with
  | m a =>
    cases (show v = .ref a from r)
    rfl
  | s K ns =>
    obtain ⟨a, e, _⟩ := r
    rw [e]
    rfl
  | d d =>
    have r' : Rep (hf ρ H) v d := r
    cases r' <;> rfl
theorem we_isN (h : WE ta γ ρ fun x ρ1 => Q (.d (.bl (isNon x))) ρ1) : WE (tIsN ta) γ ρ Q := fun H σ s e Kk k => h H σ s e _ fun H1 ρ1 v x s1 g1 rv q => by
  show Kk (.bl (decide (v = .non))) H1
  rw [ra_non rv]
  exact k H1 ρ1 _ (.d (.bl _)) s1 g1 (Rep.bl _) q
theorem we_notN (h : WE ta γ ρ fun x ρ1 => Q (.d (.bl (!isNon x))) ρ1) : WE (tNotN ta) γ ρ Q := fun H σ s e Kk k => h H σ s e _ fun H1 ρ1 v x s1 g1 rv q => by
  show Kk (.bl (!decide (v = .non))) H1
  rw [ra_non rv]
  exact k H1 ρ1 _ (.d (.bl _)) s1 g1 (Rep.bl _) q
theorem o1_neg {i : Int} (q : Q (.d (.int (-i))) ρ) : O1 (rU fun i => V.int (-i)) (.d (.int i)) ρ Q := fun H v s rv Kk k => by
  cases rv
  exact ⟨i, rfl, tk_same k s (x := .d (.int (-i))) (Rep.int _) q⟩
theorem o2_isB {a b : Bool} (q : Q (.d (.bl (decide (a = b)))) ρ) : O2 rIsB (.d (.bl a)) (.d (.bl b)) ρ Q := fun H v w s rv rw_ Kk k => by
  cases rv
  cases rw_
  exact ⟨a, b, rfl, rfl, tk_same k s (x := .d (.bl _)) (Rep.bl _) q⟩
/-- the keys of a locked dict of the store -/
theorem wi_keysM {Q : List A → (Sto → Prop) → Sto → Prop} (h : WE te γ ρ fun x ρ1 => ∃ a o ws kvs, x = .m a ∧ ρ1 a = some (.fz o ws kvs) ∧ Q (kvs.map fun p => .d (keyD p.1)) (fun ρ' => ρ' a = some (.fz o ws kvs)) ρ1) : WI (iKeys te) γ ρ Q := fun H σ s e R k => h H σ s e _ fun H1 ρ1 v x s1 g1 rv ⟨a, o, ws, kvs, ex, ea, q⟩ => by
  subst ex
  cases (show v = .ref a from rv)
  obtain ⟨e1, r1⟩ := s1 a _ ea
  have hl : (kvs.map fun p => A.d (keyD p.1)).length = ws.length := by rw [r1.length, List.length_map]
  refine ⟨a, o, rfl, .inl ⟨ws, e1, k H1 ρ1 _ _ (fun ρ' => ρ' a = some (.fz o ws kvs)) s1 g1 ⟨fun i H2 ρ2 hi s2 g2 l2 => ⟨(s2 a _ l2).1, by omega⟩, fun i H2 ρ2 y H3 hi s2 g2 l2 yl => ?_, fun H2 ρ2 s2 g2 l2 => ⟨(s2 a _ l2).1, by omega⟩⟩ q⟩⟩
  obtain ⟨rfl, k', w, ek, rfl⟩ := yl
  obtain ⟨e2, r2⟩ := s2 a _ l2
  obtain ⟨q2, eq2, hk, hw⟩ := paired_at' r2 ek
  have hk' : k' = q2.1 := hk
  subst hk'
  exact ⟨s2, Step.refl _ _, .d (keyD q2.1), by rw [List.getElem?_map, eq2]; rfl, rep_key q2.1⟩
/-- the values of a dict that stays -/
theorem wi_vals {Q : List A → (Sto → Prop) → Sto → Prop} (h : WE te γ ρ fun x ρ1 => ∃ ks ds, x = .d (.dic ks ds) ∧ ks.length = ds.length ∧ Q (ds.map .d) (fun _ => True) ρ1) : WI (iVals te) γ ρ Q := fun H σ s e R k => h H σ s e _ fun H1 ρ1 v x s1 g1 rv ⟨ks, ds, ex, hkd, q⟩ => by
  subst ex
  obtain ⟨a, o, kvs, rfl, e1, k1, rs⟩ := dic_at rv
  cases rv with
  | @dic a o kvs _ _ e1 k1 n1 r1 =>
    have hl : (ds.map A.d).length = kvs.length := by rw [List.length_map, ← n1]
    refine ⟨a, o, kvs, rfl, hf_ex _ _ _ _ e1, k H1 ρ1 _ _ (fun _ => True) s1 g1 ⟨fun i H2 ρ2 hi s2 g2 l2 => ⟨hf_ex _ _ _ _ (g2 _ _ e1), by omega⟩, fun i H2 ρ2 y H3 hi s2 g2 l2 yl => ?_, fun H2 ρ2 s2 g2 l2 => ⟨hf_ex _ _ _ _ (g2 _ _ e1), by omega⟩⟩ q⟩
    obtain ⟨rfl, k', ek⟩ := yl
    have hi' : i < ds.length := by rw [List.length_map] at hi; exact hi
    exact ⟨s2, Step.refl _ _, .d ds[i], by rw [List.getElem?_map, List.getElem?_eq_getElem hi']; rfl, (r1 i y ds[i] (by rw [List.getElem?_map, ek]; rfl) (List.getElem?_eq_getElem hi')).mono g2⟩
/-! truth -/
theorem sto_tup {H : Hp} (s : Sat H ρ) {q : Addr} {vs : List V} (e : H q = some (.tup vs)) : ρ q = none := by
  cases z : ρ q with
  | none => rfl
  | some o =>
    have m := s q o z
    cases o with
    | lst xs =>
      obtain ⟨ws, ew, _⟩ := m
      rw [e] at ew
      cases ew
    | dK kvs =>
      obtain ⟨ws, ew, _⟩ := m
      rw [e] at ew
      cases ew
    | dT kvs =>
      obtain ⟨ws, ew, _⟩ := m
      rw [e] at ew
      cases ew
    | fz ob ws kvs =>
      have ew := m.1
      rw [e] at ew
      cases ew
    | fzT ob ws kvs =>
      have ew := m.1
      rw [e] at ew
      cases ew
theorem we_lockT {a : Addr} {kvs : List (List Key × A)} (ha : ρ a = some (.dT kvs)) (h : ∀ (o : Obj) (ws : List (List Key × V)), WE te γ (pu ρ a (.fzT o ws kvs)) fun x ρ1 => ρ1 a = some (.fzT o ws kvs) ∧ Q x (pu ρ1 a (.dT kvs))) : WE (tLockE te) γ ρ Q := fun H σ s e Kk k => by
  obtain ⟨ws, ew, r⟩ := s a _ ha
  refine ⟨a, _, ew, trivial, fun od => ?_⟩
  obtain ⟨g1, s1⟩ := s.put (u := .frz od (.dT ws)) (o := .fzT od ws kvs) ha fun H' ρ' g e => ⟨e, Paired.mono (fun _ _ r => ⟨r.1, r.2.step g⟩) r⟩
  refine h od ws _ σ s1 (se_step g1 e) _ fun H2 ρ2 v x s2 g2 rv ⟨e2, q⟩ => ?_
  obtain ⟨e3, r3⟩ := s2 a _ e2
  obtain ⟨g4, s4⟩ := s2.put (u := .dT ws) (o := .dT kvs) e2 fun H' ρ' g e => ⟨ws, e, Paired.mono (fun _ _ r => ⟨r.1, r.2.step g⟩) r3⟩
  exact ⟨e3, k _ _ v x s4 ((g1.trans g2).trans g4) (rv.step g4) q⟩
/-- the keys (tuples) of a locked dict of the store -/
theorem wi_keysT {Q : List A → (Sto → Prop) → Sto → Prop} (h : WE te γ ρ fun x ρ1 => ∃ a o ws kvs, x = .m a ∧ ρ1 a = some (.fzT o ws kvs) ∧ Q (kvs.map fun p => .d (.ptup (p.1.map keyD))) (fun ρ' => ρ' a = some (.fzT o ws kvs)) ρ1) : WI (iKeys te) γ ρ Q := fun H σ s e R k => h H σ s e _ fun H1 ρ1 v x s1 g1 rv ⟨a, o, ws, kvs, ex, ea, q⟩ => by
  subst ex
  cases (show v = .ref a from rv)
  obtain ⟨e1, r1⟩ := s1 a _ ea
  have hl : (kvs.map fun p => A.d (.ptup (p.1.map keyD))).length = ws.length := by rw [r1.length, List.length_map]
  refine ⟨a, o, rfl, .inr ⟨ws, e1, k H1 ρ1 _ _ (fun ρ' => ρ' a = some (.fzT o ws kvs)) s1 g1 ⟨fun i H2 ρ2 hi s2 g2 l2 => ⟨(s2 a _ l2).1, by omega⟩, fun i H2 ρ2 y H3 hi s2 g2 l2 yl => ?_, fun H2 ρ2 s2 g2 l2 => ⟨(s2 a _ l2).1, by omega⟩⟩ q⟩⟩
  obtain ⟨rfl, k', w, b, ek, rfl, eb⟩ := yl
  obtain ⟨e2, r2⟩ := s2 a _ l2
  obtain ⟨q2, eq2, hk, hw⟩ := paired_at' r2 ek
  have hk' : k' = q2.1 := hk
  subst hk'
  refine ⟨s2, Step.refl _ _, .d (.ptup (q2.1.map keyD)), by rw [List.getElem?_map, eq2]; rfl, .ptup (vs := q2.1.map kV) (by rw [hf_out (sto_tup s2 eb), eb]) (by simp) fun j v2 d2 h1 h2 => ?_⟩
  rw [List.getElem?_map] at h1 h2
  obtain ⟨k1, f1, rfl⟩ := Option.map_eq_some_iff.mp h1
  rw [f1] at h2
  cases h2
  exact rep_key k1
/-! x and y, x or y, not x as values -/
theorem we_andV (h : WE ta γ ρ fun x ρ1 => ∃ c, x = .d (.bl c) ∧ (c = true → WE tb γ ρ1 Q) ∧ (c = false → Q (.d (.bl false)) ρ1)) : WE (tAndV ta tb) γ ρ Q := fun H σ s e Kk k => h H σ s e _ fun H1 ρ1 v x s1 g1 rv ⟨c, ex, q1, q2⟩ => by
  subst ex
  cases rv
  refine ⟨c, rfl, ?_⟩
  cases c with
  | true => exact q1 rfl H1 σ s1 (se_step g1 e) Kk (k.step g1)
  | false => exact k H1 ρ1 _ (.d (.bl false)) s1 g1 (Rep.bl _) (q2 rfl)
theorem we_orV (h : WE ta γ ρ fun x ρ1 => ∃ c, x = .d (.bl c) ∧ (c = true → Q (.d (.bl true)) ρ1) ∧ (c = false → WE tb γ ρ1 Q)) : WE (tOrV ta tb) γ ρ Q := fun H σ s e Kk k => h H σ s e _ fun H1 ρ1 v x s1 g1 rv ⟨c, ex, q1, q2⟩ => by
  subst ex
  cases rv
  refine ⟨c, rfl, ?_⟩
  cases c with
  | true => exact k H1 ρ1 _ (.d (.bl true)) s1 g1 (Rep.bl _) (q1 rfl)
  | false => exact q2 rfl H1 σ s1 (se_step g1 e) Kk (k.step g1)
theorem we_notV (h : WE ta γ ρ fun x ρ1 => ∃ c, x = .d (.bl c) ∧ Q (.d (.bl (!c))) ρ1) : WE (tNotV ta) γ ρ Q := fun H σ s e Kk k => h H σ s e _ fun H1 ρ1 v x s1 g1 rv ⟨c, ex, q1⟩ => by
  subst ex
  cases rv
  exact ⟨c, rfl, k H1 ρ1 _ (.d (.bl _)) s1 g1 (Rep.bl _) q1⟩
/-! x + y of tuples; reversed, tuple(xs) -/
theorem o2_catT {xs ys : List D} (hz : xs.length + ys.length ≤ 100000) (q : Q (.d (.tup (xs ++ ys))) ρ) : O2 (rCatZ K) (.d (.tup xs)) (.d (.tup ys)) ρ Q := fun H v w s rv rw Kk k => by
  have rv' := rv
  have rw' := rw
  obtain ⟨p, vs, rfl, hp, rs⟩ := tup_at rv
  obtain ⟨p', ws, rfl, hp', rs'⟩ := tup_at rw
  have e1 := rs.length
  have e2 := rs'.length
  rw [List.length_map] at e1 e2
  refine ⟨p, p', vs, ws, rfl, rfl, hp.sq, hp'.sq, sz_of (by omega), fun z => ?_, fun z1 z2 => ?_, fun z1 z2 a od hd ha => ?_⟩
  · rw [z] at e1
    have : xs = [] := by cases xs with
      | nil => rfl
      | cons _ _ => cases e1
    rw [this] at q
    exact tk_same k s rw' q
  · rw [z2] at e2
    have : ys = [] := by cases ys with
      | nil => rfl
      | cons _ _ => cases e2
    rw [this, List.append_nil] at q
    exact tk_same k s rv' q
  · exact tk_tup s (by rw [← map_app]; exact paired_app rs rs') k q hd ha
theorem paired_rev {α β : Type} {F : α → β → Prop} : ∀ {l₁ : List α} {l₂ : List β}, Paired F l₁ l₂ → Paired F l₁.reverse l₂.reverse
  | _, _, .nil => .nil
  | _, _, .cons h t => by
    rw [List.reverse_cons, List.reverse_cons]
    exact paired_app (paired_rev t) (.cons h .nil)
theorem we_revT (h : WE te γ ρ fun x ρ1 => ∃ ds, x = .d (.tup ds) ∧ Q (.d (.tup ds.reverse)) ρ1) : WE (tRevZ K te) γ ρ Q := fun H σ s e Kk k => h H σ s e _ fun H1 ρ1 v x s1 g1 rv ⟨ds, ex, q⟩ => by
  subst ex
  obtain ⟨p, vs, rfl, hp, rs⟩ := tup_at rv
  exact ⟨p, vs, rfl, hp.sq, fun a od hd ha => tk_tup s1 (by rw [List.map_reverse]; exact paired_rev rs) (k.step g1) q hd ha⟩
/-- xs.extend(ys), ys a list -/
theorem on_extend {a : Addr} {xs ys : List A} (h : ρ a = some (.lst xs)) (l : LsA y ρ ys) (hz : xs.length + ys.length ≤ 100000) (q : Q (.d .non) (pu ρ a (.lst (xs ++ ys)))) : ON (fun vs H Q => ∃ v ws, vs = v :: ws ∧ rExtend v ws H Q) [.m a, y] ρ Q := fun H vs s rs Kk k => by
  match vs, rs with
  | [v, w], .cons r (.cons r2 .nil) =>
    obtain ⟨us, e, ru⟩ := s a _ h
    cases (show v = .ref a from r)
    obtain ⟨p, ws, rfl, hp, rs2⟩ := l.at_ s r2
    obtain ⟨g8, s8⟩ := s.put (u := .lst (us ++ ws)) (o := .lst (xs ++ ys)) h fun H' ρ' g e => ⟨_, e, paired_app (pa_step g ru) (pa_step g rs2)⟩
    exact ⟨_, _, rfl, a, p, us, ws, rfl, rfl, e, hp, sz_of (by rw [ru.length, rs2.length]; exact hz), k _ _ .non (.d .non) s8 g8 .non q⟩
/-- xs.extend(t), t a tuple -/
theorem on_extendT {a : Addr} {xs : List A} {ds : List D} (h : ρ a = some (.lst xs)) (hz : xs.length + ds.length ≤ 100000) (q : Q (.d .non) (pu ρ a (.lst (xs ++ ds.map .d)))) : ON (fun vs H Q => ∃ v ws, vs = v :: ws ∧ rExtendZ v ws H Q) [.m a, .d (.tup ds)] ρ Q := fun H vs s rs Kk k => by
  match vs, rs with
  | [v, w], .cons r (.cons r2 .nil) =>
    obtain ⟨us, e, ru⟩ := s a _ h
    cases (show v = .ref a from r)
    obtain ⟨p, ws, rfl, hp, rs2⟩ := tup_at r2
    have hl := rs2.length
    rw [List.length_map] at hl
    obtain ⟨g8, s8⟩ := s.put (u := .lst (us ++ ws)) (o := .lst (xs ++ ds.map .d)) h fun H' ρ' g e => ⟨_, e, paired_app (pa_step g ru) (pa_step g rs2)⟩
    exact ⟨_, _, rfl, a, p, us, ws, rfl, rfl, e, hp, sz_of (by rw [ru.length, hl]; exact hz), k _ _ .non (.d .non) s8 g8 .non q⟩
/-- xs.pop(i) -/
theorem on_popAt {a : Addr} {xs : List A} {j : Nat} {z : A} (h : ρ a = some (.lst xs)) (hz : xs.length ≤ 100000) (e : xs[j]? = some z) (q : Q z (pu ρ a (.lst (xs.eraseIdx j)))) : ON (fun vs H Q => ∃ v ws, vs = v :: ws ∧ rPopAt v ws H Q) [.m a, .d (.int (j : Nat))] ρ Q := fun H vs s rs Kk k => by
  match vs, rs with
  | [v, w], .cons r (.cons r2 .nil) =>
    obtain ⟨us, eu, ru⟩ := s a _ h
    cases (show v = .ref a from r)
    cases r2
    have hj := (List.getElem?_eq_some_iff.mp e).1
    obtain ⟨y, ey, ry⟩ := paired_at ru e
    have hp : RAs H ρ (us.eraseIdx j) (xs.eraseIdx j) := by
      rw [List.eraseIdx_eq_take_drop_succ, List.eraseIdx_eq_take_drop_succ]
      exact paired_app (paired_take ru j) (paired_drop ru (j + 1))
    obtain ⟨g8, s8⟩ := s.put (u := .lst (us.eraseIdx j)) (o := .lst (xs.eraseIdx j)) h fun H' ρ' g e => ⟨_, e, pa_step g hp⟩
    refine ⟨_, _, rfl, a, us, (j : Int), j, y, rfl, rfl, eu, by omega, by omega, ?_, ey, k _ _ y z s8 g8 (ry.step g8) q⟩
    unfold seqIndex?
    rw [ru.length]
    simp [hj]
    rw [if_neg (by omega)]
    omega
/-- str(i) -/
theorem on_str {i : Int} (h : i.natAbs.log2 < 1920) (q : Q (.d (.str (toString i))) ρ) : ON (fun xs H Q => ∃ i, xs = [.int i] ∧ i.natAbs.log2 < 1920 ∧ Q (.str (toString i)) H) [.d (.int i)] ρ Q := fun H vs s rs Kk k => by
  match vs, rs with
  | [v], .cons r .nil =>
    cases r
    exact ⟨i, rfl, h, tk_same k s (x := .d (.str _)) (Rep.str _) q⟩
/-- t.count(x) -/
theorem we_bmZ {r : V → List V → Hp → VK → Prop} (h : WE ta γ ρ fun x ρ1 => (∃ ds, x = .d (.tup ds)) ∧ WA tr γ ρ1 fun xs ρ2 => ON (fun vs H Q => ∃ v ws, vs = v :: ws ∧ r v ws H Q) (x :: xs) ρ2 Q) : WE (tBMZ r ta tr) γ ρ Q := fun H σ s e Kk k =>
  h H σ s e _ fun H1 ρ1 v x s1 g1 rv ⟨⟨ds, ex⟩, q1⟩ => ⟨by
    subst ex
    obtain ⟨p, vs, rfl, hp, _⟩ := tup_at rv
    exact ⟨p, vs, rfl, hp⟩, q1 H1 σ s1 (se_step g1 e) _ fun H2 ρ2 vs xs s2 g2 rs q2 => by
    obtain ⟨v', ws, e, z⟩ := q2 H2 (v :: vs) s2 (.cons (rv.step g2) rs) Kk (k.step (g1.trans g2))
    cases e
    exact z⟩
theorem count_v {H : Hp} {w : V} {d : D} (rw : Rep (hf ρ H) w d) (h : flatD d = true) : ∀ {vs : List V} {ds : List D}, RAs H ρ vs (ds.map .d) → ds.all flatD = true → (vs.countP fun z => eqV z w) = ds.countP fun z => eqD z d
  | [], [], _, _ => rfl
  | v :: vs, e :: ds, r, ha => by
    cases r with
    | cons r1 r2 =>
      rw [List.all_cons, Bool.and_eq_true] at ha
      rw [List.countP_cons, List.countP_cons, count_v rw h r2 ha.2, eq_v r1 rw ha.1 h]
  | [], _ :: _, r, _ => by cases r
  | _ :: _, [], r, _ => by cases r
theorem on_tcount {ds : List D} {d : D} (h : flatD d = true) (ha : ds.all flatD = true) (q : Q (.d (.int ((ds.countP fun z => eqD z d : Nat) : Int))) ρ) : ON (fun vs H Q => ∃ v ws, vs = v :: ws ∧ rTCount K v ws H Q) [.d (.tup ds), .d d] ρ Q := fun H vs s rs Kk k => by
  match vs, rs with
  | [v, w], .cons r (.cons r2 .nil) =>
    obtain ⟨p, ws, rfl, hp, rt⟩ := tup_at r
    refine ⟨_, _, rfl, p, ws, w, rfl, rfl, hp.sq, flat_v r2 h, (in_v r2 h rt ha).1, ?_⟩
    rw [count_v r2 h rt ha]
    exact tk_same k s (x := .d (.int _)) (Rep.int _) q
/-- for i, x in enumerate(t) -/
theorem wi_enumT {Q : List A → (Sto → Prop) → Sto → Prop} (h : WA tr γ ρ fun xs ρ1 => ∃ ds, xs = [.d (.tup ds)] ∧ Q (ds.mapIdx fun i d => .d (.ptup [.int (i : Nat), d])) (fun _ => True) ρ1) : WI (iEnumT K tr) γ ρ Q := fun H σ s e R k => h H σ s e _ fun H1 ρ1 us xs s1 g1 rs ⟨ds, ex, q⟩ => by
  subst ex
  match us, rs with
  | [v], .cons rv .nil =>
    have rv' := rv
    obtain ⟨p, vs, rfl, hp, rt⟩ := tup_at rv
    have hlen : (ds.mapIdx fun i d => A.d (.ptup [.int (i : Nat), d])).length = ds.length := List.length_mapIdx
    refine ⟨p, vs, rfl, hp.sq, k H1 ρ1 _ _ (fun _ => True) s1 g1 ⟨fun i H2 ρ2 hi s2 g2 _ => ?_, fun i H2 ρ2 y H3 hi s2 g2 _ yl => ?_, fun H2 ρ2 s2 g2 _ => ?_⟩ q⟩
    · obtain ⟨p', vs', ep, hp', rs'⟩ := tup_at (rv'.step g2)
      cases ep
      have := rs'.length
      rw [List.length_map] at this
      exact ⟨vs', vs'[i]'(by omega), hp'.sq, List.getElem?_eq_getElem _⟩
    · obtain ⟨p', vs', ep, hp', rs'⟩ := tup_at (rv'.step g2)
      cases ep
      obtain ⟨T, x, rfl, hT, rfl, hx⟩ := yl
      have hi' : i < ds.length := by omega
      have ex := hx vs' hp'.sq
      have ed : ds[i]? = some ds[i] := List.getElem?_eq_getElem hi'
      have rx : RA H2 ρ2 x (.d ds[i]) := paired_rel rs' i x (.d ds[i]) ex (by rw [List.getElem?_map, ed]; rfl)
      obtain ⟨g3, s3⟩ := s2.new (u := .tup [.int (i : Nat), x]) hT
      refine ⟨s3, g3, .d (.ptup [.int (i : Nat), ds[i]]), by rw [List.getElem?_mapIdx, ed]; rfl, .ptup (vs := [.int (i : Nat), x]) (by rw [hf_out (s2.free hT), upd_same]) rfl fun j v2 d2 h1 h2 => ?_⟩
      match j, h1, h2 with
      | 0, h1, h2 =>
        cases Option.some.inj h1
        cases Option.some.inj h2
        exact Rep.int _
      | 1, h1, h2 =>
        cases Option.some.inj h1
        cases Option.some.inj h2
        exact rx.step g3
      | j + 2, h1, h2 => simp at h1
    · obtain ⟨p', vs', ep, hp', rs'⟩ := tup_at (rv'.step g2)
      cases ep
      have := rs'.length
      rw [List.length_map] at this
      exact ⟨vs', hp'.sq, by omega⟩
end
/-! ### a set of names, told as a dict of True -/
def ins (l : List Str) (x : Str) : List Str := if x ∈ l then l else l ++ [x]
def setK (l : List Str) : List (Key × A) := l.map fun x => ((Sum.inr x : Key), A.d (.bl true))
theorem mem_ins {l : List Str} {x y : Str} : y ∈ ins l x ↔ y ∈ l ∨ y = x := by
  unfold ins
  split
  · rename_i h
    exact ⟨.inl, fun z => z.elim id fun e => by rw [e]; exact h⟩
  · simp
theorem ins_nd {l : List Str} {x : Str} (h : l.Nodup) : (ins l x).Nodup := by
  unfold ins
  split
  · exact h
  · rename_i c
    rw [List.nodup_append]
    refine ⟨h, by simp, fun a ha b hb z => ?_⟩
    rw [z, List.mem_singleton.mp hb] at ha
    exact c ha
theorem ins_in {l : List Str} {x : Str} (h : x ∈ l) : ins l x = l := if_pos h
theorem ins_out {l : List Str} {x : Str} (h : x ∉ l) : ins l x = l ++ [x] := if_neg h
theorem ins_len (l : List Str) (x : Str) : (ins l x).length ≤ l.length + 1 := by
  unfold ins
  split
  · omega
  · simp
theorem setK_val (x : Str) : ∀ l : List Str, valA (setK l) (Sum.inr x : Key) = if x ∈ l then some (A.d (.bl true)) else none
  | [] => rfl
  | y :: l => by
    show valA (((Sum.inr y : Key), A.d (.bl true)) :: setK l) (Sum.inr x : Key) = _
    by_cases e : y = x
    · rw [valA_pos (by rw [e]), if_pos (by rw [e]; exact List.mem_cons_self)]
    · rw [valA_neg (fun z => e (Sum.inr.inj z)), setK_val x l]
      by_cases c : x ∈ l
      · rw [if_pos c, if_pos (List.mem_cons_of_mem _ c)]
      · rw [if_neg c, if_neg (fun z => by rcases List.mem_cons.mp z with w | w; exact e w.symm; exact c w)]
theorem setK_put (l : List Str) (x : Str) : putA (setK l) (Sum.inr x : Key) (A.d (.bl true)) = setK (ins l x) := by
  unfold ins
  split
  · rename_i h
    have := putA_map (kf := fun m : Str => (Sum.inr m : Key)) (gf := fun _ => A.d (.bl true)) (v := A.d (.bl true)) inr_inj h
    refine (show putA (setK l) _ _ = _ from this).trans ?_
    unfold setK
    apply List.map_congr_left
    intro m _
    split <;> rfl
  · rename_i h
    have := putA_new (kf := fun m : Str => (Sum.inr m : Key)) (gf := fun _ => A.d (.bl true)) (v := A.d (.bl true)) inr_inj h
    refine (show putA (setK l) _ _ = _ from this).trans ?_
    unfold setK
    rw [List.map_append]
    rfl
theorem set_get {l : List Str} {x : Str} {ρ : Sto} {a : Addr} (h : ρ a = some (.dK (setK l))) : DGA (.m a) (.d (.str x)) ρ (if x ∈ l then some (A.d (.bl true)) else none) :=
  .inl ⟨a, _, .inr x, rfl, h, rfl, (setK_val x l).symm⟩
theorem set_has {l : List Str} {x : Str} : (if x ∈ l then some (A.d (.bl true)) else none).isSome = decide (x ∈ l) := by
  by_cases h : x ∈ l
  · rw [if_pos h, decide_eq_true h]
    rfl
  · rw [if_neg h, decide_eq_false h]
    rfl
theorem set_put {l : List Str} {x : Str} {ρ : Sto} {a : Addr} (h : ρ a = some (.dK (setK l))) (hz : l.length < 100000) : DPA (.m a) (.d (.str x)) (.d (.bl true)) ρ (pu ρ a (.dK (setK (ins l x)))) :=
  .inl ⟨a, _, .inr x, rfl, h, rfl, by unfold setK; rw [List.length_map]; exact hz, by rw [setK_put]⟩
end AB
set_option Elab.async false
set_option linter.all false
set_option maxRecDepth 100000
set_option maxHeartbeats 4000000
/-! Comprehensions told by filter and map. -/
namespace AB
open PySem PySem.Spec PyProof.Rows L2 Evl KX
theorem range_pick {α β : Type} (l : List α) (g : α → Option β) : ∀ n : Nat, n ≤ l.length → (List.range n).filterMap (fun i => (l[i]?).bind g) = (l.take n).filterMap g
  | 0, _ => by simp
  | n + 1, h => by
    have e : l[n]? = some l[n] := List.getElem?_eq_getElem (by omega)
    rw [List.range_succ, List.filterMap_append, range_pick l g n (by omega), List.take_succ, e, List.filterMap_append]
    congr 1
    simp only [List.filterMap_cons, List.filterMap_nil, e, Option.bind_some, Option.toList_some]
theorem pick_filter {α β : Type} (c : α → Bool) (f : α → β) : ∀ l : List α, l.filterMap (fun x => if c x = true then some (f x) else none) = (l.filter c).map f
  | [] => rfl
  | x :: l => by
    rw [List.filterMap_cons, List.filter_cons, pick_filter c f l]
    cases c x <;> rfl
section
variable {γ γ' : Env} {ρ ρ' : Sto} {te : TE} {tt : TT} {g : TG} {Q : QA} {vs : List Nat}
/-- what one turn of a comprehension asks -/
abbrev LcTurn (g : TG) (tt : TT) (te : TE) (vs : List Nat) (γ : Env) (x : D) (c : Bool) (e : D) (ρx : Sto) : Prop :=
  WGv g vs (.d x) (wipeE γ vs) ρx fun γ2 ρ2 => ρ2 = ρx ∧ WT tt γ2 ρx fun b ρ3 => ρ3 = ρx ∧ b = c ∧ (c = true → WE te γ2 ρx fun z ρ4 => ρ4 = ρx ∧ z = .d e)
theorem we_lcF {wi : TI} (h : WI wi γ ρ fun xs G ρ1 => ∃ (α : Type) (l : List α) (src e : α → D) (c : α → Bool), xs = (l.map src).map .d ∧ (∀ ρx, Sub ρ1 ρx → G ρx) ∧ l.length ≤ 50000 ∧ (∀ n, n ∈ l → ∀ ρx, Sub ρ1 ρx → LcTurn g tt te vs γ (src n) (c n) (e n) ρx) ∧ Q (.d (.lst ((l.filter c).map e))) ρ1) : WE (tLc wi g tt te vs) γ ρ Q :=
  we_lcD fun H σ s ee R k => h H σ s ee R fun H' ρ' J xs G s' g' J' ⟨α, l, src, e, c, ex, hG, hz, ht, q⟩ => k H' ρ' J xs G s' g' J' (by
    subst ex
    have hl : ((l.map src).map A.d).length = l.length := by rw [List.length_map, List.length_map]
    refine ⟨fun i => (l[i]?).bind fun x => if c x = true then some (e x) else none, hG, by rw [hl]; exact hz, fun i y ρx ey sb => ?_, ?_⟩
    · rw [List.getElem?_map, List.getElem?_map] at ey
      obtain ⟨d, ed, rfl⟩ := Option.map_eq_some_iff.mp ey
      obtain ⟨x, ex, rfl⟩ := Option.map_eq_some_iff.mp ed
      have hx := List.mem_of_getElem? ex
      intro H4 σ4 v s4 e4 r4 N k4
      refine ht x hx ρx sb H4 σ4 v s4 e4 r4 N fun H5 ρ5 σ5 γ5 s5 g5 e5 ⟨z5, q5⟩ w5 => k4 H5 ρ5 σ5 γ5 s5 g5 e5 ⟨z5, WT.mono q5 fun b ρ6 ⟨z6, hb, h6⟩ => ⟨z6, fun b1 => ?_, fun b1 => ?_⟩⟩ w5
      · subst hb
        refine WE.mono (h6 b1) fun z ρ7 ⟨z7, ez⟩ => ⟨z7, e x, ez, ?_⟩
        show (l[i]?).bind _ = _
        rw [ex]
        exact if_pos b1
      · subst hb
        show (l[i]?).bind _ = _
        rw [ex]
        exact if_neg (by rw [b1]; simp)
    · rw [hl, range_pick l (fun x => if c x = true then some (e x) else none) l.length (Nat.le_refl _), List.take_length, pick_filter]
      exact q)
/-- .. in a list of the store -/
theorem we_lcFM {wi : TI} (h : WI wi γ ρ fun xs G ρ1 => ∃ (α : Type) (l : List α) (src e : α → D) (c : α → Bool), xs = (l.map src).map .d ∧ (∀ ρx, Sub ρ1 ρx → G ρx) ∧ l.length ≤ 50000 ∧ (∀ n, n ∈ l → ∀ ρx, Sub ρ1 ρx → LcTurn g tt te vs γ (src n) (c n) (e n) ρx) ∧ ∀ L, ρ1 L = none → Q (.m L) (pu ρ1 L (.lst (((l.filter c).map e).map .d)))) : WE (tLc wi g tt te vs) γ ρ Q :=
  we_lcM fun H σ s ee R k => h H σ s ee R fun H' ρ' J xs G s' g' J' ⟨α, l, src, e, c, ex, hG, hz, ht, q⟩ => k H' ρ' J xs G s' g' J' (by
    subst ex
    have hl : ((l.map src).map A.d).length = l.length := by rw [List.length_map, List.length_map]
    refine ⟨fun i => (l[i]?).bind fun x => if c x = true then some (e x) else none, hG, by rw [hl]; exact hz, fun i y ρx ey sb => ?_, ?_⟩
    · rw [List.getElem?_map, List.getElem?_map] at ey
      obtain ⟨d, ed, rfl⟩ := Option.map_eq_some_iff.mp ey
      obtain ⟨x, ex, rfl⟩ := Option.map_eq_some_iff.mp ed
      have hx := List.mem_of_getElem? ex
      intro H4 σ4 v s4 e4 r4 N k4
      refine ht x hx ρx sb H4 σ4 v s4 e4 r4 N fun H5 ρ5 σ5 γ5 s5 g5 e5 ⟨z5, q5⟩ w5 => k4 H5 ρ5 σ5 γ5 s5 g5 e5 ⟨z5, WT.mono q5 fun b ρ6 ⟨z6, hb, h6⟩ => ⟨z6, fun b1 => ?_, fun b1 => ?_⟩⟩ w5
      · subst hb
        refine WE.mono (h6 b1) fun z ρ7 ⟨z7, ez⟩ => ⟨z7, e x, ez, ?_⟩
        show (l[i]?).bind _ = _
        rw [ex]
        exact if_pos b1
      · subst hb
        show (l[i]?).bind _ = _
        rw [ex]
        exact if_neg (by rw [b1]; simp)
    · rw [hl, range_pick l (fun x => if c x = true then some (e x) else none) l.length (Nat.le_refl _), List.take_length, pick_filter]
      exact q)
theorem nocut {α : Type} (l : List α) : l.filter (fun _ => true) = l := by
  induction l with
  | nil => rfl
  | cons x l ih => rw [List.filter_cons, if_pos rfl, ih]
/-- walked lists: l by src -/
theorem at_src {α : Type} {l : List α} {src : α → D} {i : Nat} {y : A} (h : ((l.map src).map A.d)[i]? = some y) : ∃ x, l[i]? = some x ∧ y = .d (src x) := by
  rw [List.getElem?_map, List.getElem?_map] at h
  obtain ⟨d, ed, rfl⟩ := Option.map_eq_some_iff.mp h
  obtain ⟨x, ex, rfl⟩ := Option.map_eq_some_iff.mp ed
  exact ⟨x, ex, rfl⟩
theorem src_at {α : Type} {l : List α} {src : α → D} {i : Nat} {x : α} (h : l[i]? = some x) : ((l.map src).map A.d)[i]? = some (.d (src x)) := by
  rw [List.getElem?_map, List.getElem?_map, h]
  rfl
theorem src_len {α : Type} {l : List α} {src : α → D} : ((l.map src).map A.d).length = l.length := by rw [List.length_map, List.length_map]
theorem none_of {ρ ρ' : Sto} (s : Sub ρ ρ') {a : Addr} (h : ρ' a = none) : ρ a = none := by
  cases e : ρ a with
  | none => rfl
  | some o =>
    rw [s a o e] at h
    cases h
end
/-! truth of lists, tuples -/
section
variable {γ γ' : Env} {ρ ρ' : Sto} {te : TE} {Q : Bool → Sto → Prop} {K : PySem.W.Frag} {x : A}
def TruA (x : A) (ρ : Sto) (b : Bool) : Prop := (∃ xs, LsA x ρ xs ∧ b = !xs.isEmpty) ∨ (∃ ds, x = .d (.tup ds) ∧ b = !ds.isEmpty) ∨ x = .d (.bl b) ∨ (x = .d .non ∧ b = false) ∨ (∃ i, x = .d (.int i) ∧ b = (i != 0)) ∨ ∃ z : Str, x = .d (.str z) ∧ z.length ≤ 1000000 ∧ b = ((z.length : Int) != 0)
theorem tru_at {b : Bool} {H : Hp} {v : V} (h : TruA x ρ b) (s : Sat H ρ) (r : RA H ρ v x) : TruV K v H b := by
  rcases h with ⟨xs, l, rfl⟩ | ⟨ds, rfl, rfl⟩ | rfl | ⟨rfl, rfl⟩ | ⟨i, rfl, rfl⟩ | ⟨z, rfl, hz, rfl⟩
  · obtain ⟨p, vs, rfl, hp, rs⟩ := l.at_ s r
    refine .inl ⟨vs, SqL.of hp, ?_⟩
    cases rs <;> rfl
  · obtain ⟨p, vs, rfl, hp, rs⟩ := tup_at r
    refine .inr (.inl ⟨vs, hp.sq, ?_⟩)
    cases ds <;> cases rs <;> rfl
  · cases r
    rfl
  · cases r
    rfl
  · cases r
    rfl
  · cases r
    exact ⟨by rw [sizeLine_eq]; omega, rfl⟩
theorem wt_tru (h : WE te γ ρ fun x ρ1 => ∃ b, TruA x ρ1 b ∧ Q b ρ1) : WT (fun σ H Q => te σ H fun x H' => ∃ k, TruV K x H' k ∧ Q k H') γ ρ Q := fun H σ s e Kk k => h H σ s e _ fun H1 ρ1 v x s1 g1 rv ⟨b, t, q⟩ => ⟨b, tru_at t s1 rv, k H1 ρ1 b s1 g1 q⟩
theorem truL {xs : List A} (h : LsA x ρ xs) : TruA x ρ (!xs.isEmpty) := .inl ⟨xs, h, rfl⟩
theorem truT {ds : List D} : TruA (.d (.tup ds)) ρ (!ds.isEmpty) := .inr (.inl ⟨ds, rfl, rfl⟩)
end
/-! two fors -/
section
variable {γ γ' : Env} {ρ ρ' : Sto} {te : TE} {tt tt1 : TT} {g g1 : TG} {Q : QA} {vs vs1 : List Nat}
theorem we_lc2F {wi wi1 : TI} (h : WI wi γ ρ fun xs G ρ1 => ∃ (α : Type) (l : List α) (src : α → D) (c : α → Bool) (out : α → List D), xs = (l.map src).map .d ∧ (∀ ρx, Sub ρ1 ρx → G ρx) ∧ ((l.filter c).flatMap out).length ≤ 100000 ∧
      (∀ n, n ∈ l → ∀ ρx, Sub ρ1 ρx → WGv g vs (.d (src n)) (wipeE γ vs) ρx fun γ2 ρ2 => ρ2 = ρx ∧ WT tt γ2 ρx fun b ρ3 => ρ3 = ρx ∧ b = c n ∧ (c n = true → WI wi1 γ2 ρx fun ys G1 ρ4 => ρ4 = ρx ∧ ∃ (β : Type) (l1 : List β) (src1 e1 : β → D) (c1 : β → Bool), ys = (l1.map src1).map .d ∧ out n = (l1.filter c1).map e1 ∧ (∀ ρy, Sub ρ1 ρy → G1 ρy) ∧
        ∀ m, m ∈ l1 → ∀ ρy, Sub ρ1 ρy → WGv g1 vs1 (.d (src1 m)) (wipeE γ2 vs1) ρy fun γ3 ρ5 => ρ5 = ρy ∧ WT tt1 γ3 ρy fun b ρ6 => ρ6 = ρy ∧ b = c1 m ∧ (c1 m = true → WE te γ3 ρy fun z ρ7 => ρ7 = ρy ∧ z = .d (e1 m)))) ∧
      Q (.d (.lst ((l.filter c).flatMap out))) ρ1) : WE (tLc2 wi g tt wi1 g1 tt1 te vs vs1) γ ρ Q := fun H σ s e Kk k =>
  h H σ s e _ fun H1 ρ1 J xs G s1 g1' J1 ⟨α, l, src, c, out, ex, hG, hz, ht, q⟩ L hL => by
    subst ex
    have hlen : ((l.map src).map A.d).length = l.length := src_len
    let acc : Nat → List D := fun i => ((l.take i).filter c).flatMap out
    have acc_full : acc l.length = (l.filter c).flatMap out := by show ((l.take l.length).filter c).flatMap out = _; rw [List.take_length]
    have acc_succ : ∀ {i : Nat} {n : α}, l[i]? = some n → acc (i + 1) = acc i ++ (if c n = true then out n else []) := fun {i n} en => by
      show ((l.take (i + 1)).filter c).flatMap out = ((l.take i).filter c).flatMap out ++ _
      rw [List.take_succ, en, List.filter_append, List.flatMap_append]
      congr 1
      show ([n].filter c).flatMap out = _
      rw [List.filter_cons]
      cases c n <;> simp
    have acc_le : ∀ i, (acc i).length ≤ (acc l.length).length := fun i => by
      show (((l.take i).filter c).flatMap out).length ≤ (((l.take l.length).filter c).flatMap out).length
      rw [List.take_length]
      conv => rhs; rw [← List.take_append_drop i l]
      rw [List.filter_append, List.flatMap_append, List.length_append]
      omega
    have hL0 : ρ1 L = none := s1.free hL
    obtain ⟨g2, s2⟩ := s1.add (u := .lst []) (o := .lst []) hL fun H' ρ' g e => ⟨[], e, .nil⟩
    refine ⟨fun i m H' => m = l.length - i ∧ i ≤ l.length ∧ Sat H' (pu ρ1 L (.lst ((acc i).map .d))) ∧ Step H1 ρ1 H' (pu ρ1 L (.lst ((acc i).map .d))), ⟨l.length, by simp, Nat.zero_le _, s2, g2⟩, ?_⟩
    rintro i m H' ⟨rfl, hi, s3, g3⟩
    have hsub : ∀ o : Mo, Sub ρ1 (pu ρ1 L o) := fun o => (Sub.refl _).new hL0
    by_cases hlt : i < l.length
    · have en : l[i]? = some l[i] := List.getElem?_eq_getElem hlt
      refine .inr ⟨J1.go i H' _ (by rw [hlen]; exact hlt) s3 g3 (hG _ (hsub _)), fun H4 => Sat H4 (pu ρ1 L (.lst ((acc (i + 1)).map .d))) ∧ Step H1 ρ1 H4 (pu ρ1 L (.lst ((acc (i + 1)).map .d))), fun H4 w => ⟨l.length - (i + 1), by omega, rfl, hlt, w⟩, fun v H4 yl => ?_⟩
      obtain ⟨s4, g4, y, ey, ry⟩ := J1.yl i H' _ v H4 (by rw [hlen]; exact hlt) s3 g3 (hG _ (hsub _)) yl
      rw [src_at en] at ey
      cases ey
      refine ht l[i] (List.getElem_mem hlt) _ (hsub _) H4 (wipe σ vs) v s4 (se_wipe (se_step ((g1'.trans g3).trans g4) e) vs) ry _ fun H5 ρ5 σ5 γ5 s5 g5 e5 ⟨z5, q5⟩ w5 => ⟨w5.trans (wipe_wipe σ vs), ?_⟩
      subst z5
      refine q5 H5 σ5 s5 e5 _ fun H6 ρ6 b s6 g6 ⟨z6, hb, q6⟩ => ?_
      subst z6 hb
      have gg := ((g3.trans g4).trans g5).trans g6
      cases hc : c l[i] with
      | false =>
        have : acc (i + 1) = acc i := by rw [acc_succ en, hc, if_neg (by simp), List.append_nil]
        rw [if_neg (by simp), this]
        exact ⟨s6, gg⟩
      | true =>
        rw [if_pos rfl]
        refine q6 hc H6 σ5 s6 (se_step g6 e5) _ fun H7 ρ7 J7 ys G7 s7 g7 J7x ⟨z7, β, l1, src1, e1, c1, ey7, eo, hG7, ht7⟩ => ?_
        subst z7 ey7
        have hlen1 : ((l1.map src1).map A.d).length = l1.length := src_len
        have hacc : acc (i + 1) = acc i ++ (l1.filter c1).map e1 := by rw [acc_succ en, hc, if_pos rfl, eo]
        let ac1 : Nat → List D := fun j => acc i ++ ((l1.take j).filter c1).map e1
        have ac1_succ : ∀ {j : Nat} {x : β}, l1[j]? = some x → ac1 (j + 1) = ac1 j ++ (if c1 x = true then [e1 x] else []) := fun {j x} en => by
          show acc i ++ ((l1.take (j + 1)).filter c1).map e1 = acc i ++ ((l1.take j).filter c1).map e1 ++ _
          rw [List.take_succ, en, List.filter_append, List.map_append, ← List.append_assoc]
          congr 1
          show ([x].filter c1).map e1 = _
          rw [List.filter_cons]
          cases c1 x <;> simp
        have ac1_lt : ∀ {j : Nat} {x : β}, l1[j]? = some x → c1 x = true → (ac1 j).length < 100000 := fun {j x} en hx => by
          have h1 : (ac1 (j + 1)).length ≤ (acc (i + 1)).length := by
            rw [hacc]
            show (acc i ++ ((l1.take (j + 1)).filter c1).map e1).length ≤ _
            rw [List.length_append, List.length_append, List.length_map, List.length_map]
            conv => rhs; rw [← List.take_append_drop (j + 1) l1]
            rw [List.filter_append, List.length_append]
            omega
          rw [ac1_succ en, if_pos hx, List.length_append, List.length_singleton] at h1
          have := acc_le (i + 1)
          rw [acc_full] at this
          omega
        have e0 : ac1 0 = acc i := by show acc i ++ _ = _; simp
        refine ⟨fun j k H8 => k = l1.length - j ∧ j ≤ l1.length ∧ Sat H8 (pu ρ1 L (.lst ((ac1 j).map .d))) ∧ Step H7 (pu ρ1 L (.lst ((acc i).map .d))) H8 (pu ρ1 L (.lst ((ac1 j).map .d))), ⟨l1.length, by simp, Nat.zero_le _, by rw [e0]; exact s7, by rw [e0]; exact Step.refl _ _⟩, ?_⟩
        rintro j k' H8 ⟨rfl, hj, s8, g8⟩
        by_cases hlt1 : j < l1.length
        · have en1 : l1[j]? = some l1[j] := List.getElem?_eq_getElem hlt1
          refine .inr ⟨J7x.go j H8 _ (by rw [hlen1]; exact hlt1) s8 g8 (hG7 _ (hsub _)), fun H9 => Sat H9 (pu ρ1 L (.lst ((ac1 (j + 1)).map .d))) ∧ Step H7 (pu ρ1 L (.lst ((acc i).map .d))) H9 (pu ρ1 L (.lst ((ac1 (j + 1)).map .d))), fun H9 w => ⟨l1.length - (j + 1), by omega, rfl, hlt1, w⟩, fun v1 H9 yl1 => ?_⟩
          obtain ⟨s9, g9, y1, ey1, ry1⟩ := J7x.yl j H8 _ v1 H9 (by rw [hlen1]; exact hlt1) s8 g8 (hG7 _ (hsub _)) yl1
          rw [src_at en1] at ey1
          cases ey1
          refine ht7 l1[j] (List.getElem_mem hlt1) _ (hsub _) H9 (wipe σ5 vs1) v1 s9 (se_wipe (se_step (((g6.trans g7).trans g8).trans g9) e5) vs1) ry1 _ fun H10 ρ10 σ10 γ10 s10 g10 e10 ⟨z10, q10⟩ w10 => ⟨w10.trans (wipe_wipe σ5 vs1), ?_⟩
          subst z10
          refine q10 H10 σ10 s10 e10 _ fun H11 ρ11 b1 s11 g11 ⟨z11, hb1, q11⟩ => ?_
          subst z11 hb1
          have gg1 := ((g8.trans g9).trans g10).trans g11
          cases hc1 : c1 l1[j] with
          | false =>
            have : ac1 (j + 1) = ac1 j := by rw [ac1_succ en1, hc1, if_neg (by simp), List.append_nil]
            rw [if_neg (by simp), this]
            exact ⟨s11, gg1⟩
          | true =>
            rw [if_pos rfl]
            refine q11 hc1 H11 σ10 s11 (se_step g11 e10) _ fun H12 ρ12 u z s12 g12 r12 ⟨z12, ez⟩ => ?_
            subst z12 ez
            obtain ⟨ws, ew, rv⟩ := s12 L _ pu_same
            have hsucc : ac1 (j + 1) = ac1 j ++ [e1 l1[j]] := by rw [ac1_succ en1, hc1, if_pos rfl]
            obtain ⟨g13, s13⟩ := s12.put (u := .lst (ws ++ [u])) (o := .lst ((ac1 (j + 1)).map .d)) pu_same fun H' ρ' g e => ⟨_, e, by
              rw [hsucc, List.map_append]
              exact paired_app (pa_step g rv) (.cons (r12.step g) .nil)⟩
            rw [pu_pu] at g13 s13
            have := ac1_lt en1 hc1
            exact ⟨ws, ew, sz_lt (by rw [rv.length, List.length_map]; omega), s13, (gg1.trans g12).trans g13⟩
        · have ej : j = l1.length := by omega
          subst ej
          have e2 : ac1 l1.length = acc (i + 1) := by rw [hacc]; show acc i ++ ((l1.take l1.length).filter c1).map e1 = _; rw [List.take_length]
          refine .inl ⟨by have := J7x.st H8 _ s8 g8 (hG7 _ (hsub _)); rw [hlen1] at this; exact this, ?_⟩
          rw [← e2]
          exact ⟨s8, ((gg.trans g7).trans g8)⟩
    · have ei : i = l.length := by omega
      subst ei
      refine .inl ⟨by have := J1.st H' _ s3 g3 (hG _ (hsub _)); rw [hlen] at this; exact this, ?_⟩
      obtain ⟨ws, ew, rw⟩ := s3 L _ pu_same
      have s5 := Step.sub (H := H') (hsub (.lst ((acc l.length).map .d)))
      obtain ⟨n, r⟩ := rep_list rw
      rw [← acc_full] at q
      exact k H' ρ1 (.ref L) (.d (.lst (acc l.length))) (s3.sub (hsub _)) ((g1'.trans g3).trans s5) (.lst (by rw [hf_out hL0]; exact ew) n fun i v d e1 e2 => (r i v d e1 e2).mono s5) q
end
end AB
set_option Elab.async false
set_option linter.all false
set_option maxRecDepth 100000
set_option maxHeartbeats 4000000
/-! == and != of data at any depth. -/
namespace AB
open PySem PySem.Spec PyProof.Rows L2 Evl KX
mutual
def pyD : D → PyData
  | .non => .none
  | .bl b => .bool b
  | .int i => .int i
  | .str x => .str x
  | .ty _ => .none
  | .lst l => .list (pyDs l)
  | .tup l => .tuple (pyDs l)
  | .ptup l => .tuple (pyDs l)
  | .dic _ _ => .none
def pyDs : List D → List PyData
  | [] => []
  | d :: l => pyD d :: pyDs l
end
mutual
/-- data that may be compared: no class, no dict -/
def cmpD : D → Bool
  | .ty _ => false
  | .dic _ _ => false
  | .lst l => cmpDs l
  | .tup l => cmpDs l
  | .ptup l => cmpDs l
  | _ => true
def cmpDs : List D → Bool
  | [] => true
  | d :: l => cmpD d && cmpDs l
end
mutual
/-- .. whose == is being the same: no bools, no pairs of a dict -/
def cleanD : D → Bool
  | .ty _ => false
  | .dic _ _ => false
  | .bl _ => false
  | .ptup _ => false
  | .lst l => cleanDs l
  | .tup l => cleanDs l
  | _ => true
def cleanDs : List D → Bool
  | [] => true
  | d :: l => cleanD d && cleanDs l
end
mutual
theorem clean_eq : ∀ d e : D, cleanD d = true → cleanD e = true → (PyData.eqv (pyD d) (pyD e) = true ↔ d = e)
  | .non, e, _, he => by cases e <;> first | (simp [pyD, PyData.eqv]; done) | cases he
  | .int i, e, _, he => by cases e <;> first | (simp [pyD, PyData.eqv]; done) | cases he
  | .str x, e, _, he => by cases e <;> first | (simp [pyD, PyData.eqv]; done) | cases he
  | .lst l, e, hd, he => by
    cases e with
    | lst m => rw [pyD, pyD, PyData.eqv, clean_eqs l m hd he]; exact ⟨fun z => by rw [z], fun z => D.lst.inj z⟩
    | bl _ => cases he
    | ty _ => cases he
    | dic _ _ => cases he
    | ptup _ => cases he
    | _ => simp [pyD, PyData.eqv]
  | .tup l, e, hd, he => by
    cases e with
    | tup m => rw [pyD, pyD, PyData.eqv, clean_eqs l m hd he]; exact ⟨fun z => by rw [z], fun z => D.tup.inj z⟩
    | bl _ => cases he
    | ty _ => cases he
    | dic _ _ => cases he
    | ptup _ => cases he
    | _ => simp [pyD, PyData.eqv]
  | .bl _, _, hd, _ => by cases hd
  | .ty _, _, hd, _ => by cases hd
  | .ptup _, _, hd, _ => by cases hd
  | .dic _ _, _, hd, _ => by cases hd
theorem clean_eqs : ∀ l m : List D, cleanDs l = true → cleanDs m = true → (PyData.eqvAll (pyDs l) (pyDs m) = true ↔ l = m)
  | [], [], _, _ => by simp [pyDs, PyData.eqvAll]
  | [], _ :: _, _, _ => by simp [pyDs, PyData.eqvAll]
  | _ :: _, [], _, _ => by simp [pyDs, PyData.eqvAll]
  | d :: l, e :: m, hd, he => by
    have hd' : (cleanD d && cleanDs l) = true := hd
    have he' : (cleanD e && cleanDs m) = true := he
    rw [Bool.and_eq_true] at hd' he'
    rw [pyDs, pyDs, PyData.eqvAll, Bool.and_eq_true, clean_eq d e hd'.1 he'.1, clean_eqs l m hd'.2 he'.2, List.cons.injEq]
end
theorem clean_dec {d e : D} (hd : cleanD d = true) (he : cleanD e = true) : (PyData.eqv (pyD d) (pyD e) = true ∧ d = e) ∨ (PyData.eqv (pyD d) (pyD e) = false ∧ d ≠ e) := by
  cases c : PyData.eqv (pyD d) (pyD e) with
  | true => exact .inl ⟨rfl, (clean_eq d e hd he).mp c⟩
  | false => exact .inr ⟨rfl, fun z => by rw [(clean_eq d e hd he).mpr z] at c; cases c⟩
section
variable {ρ : Sto} {Q : QA} {K : PySem.W.Frag}
theorem cmp_at {l : List D} (h : cmpDs l = true) : ∀ (i : Nat) (d : D), l[i]? = some d → cmpD d = true := by
  induction l with
  | nil => exact fun i d e => by simp at e
  | cons x l ih =>
    have h' : (cmpD x && cmpDs l) = true := h
    rw [Bool.and_eq_true] at h'
    intro i d e
    cases i with
    | zero => cases Option.some.inj e; exact h'.1
    | succ i => exact ih h'.2 i d e
theorem dps_of {H : Hp} : ∀ {vs : List V} {ds : List D}, vs.length = ds.length → (∀ (i : Nat) (v : V) (d : D), vs[i]? = some v → ds[i]? = some d → Dp K H v (pyD d)) → DpAll K H vs (pyDs ds)
  | [], [], _, _ => .nil
  | v :: vs, d :: ds, h, k => .cons (k 0 v d rfl rfl) (dps_of (Nat.succ.inj h) fun i a b e1 e2 => k (i + 1) a b e1 e2)
  | [], _ :: _, h, _ => by cases h
  | _ :: _, [], h, _ => by cases h
theorem rep_dp {H H' : Hp} (ex : Ex H H') {v : V} {d : D} (r : Rep H v d) : cmpD d = true → Dp K H' v (pyD d) := by
  induction r with
  | non => exact fun _ => .non
  | bl b => exact fun _ => .bl b
  | int i => exact fun _ => .int i
  | str x => exact fun _ => .str x
  | ty n => exact fun h => by cases h
  | lst e n _ ih => exact fun h => by rw [pyD]; exact .lst (SqL.of (ex _ _ e)) (dps_of n fun i v d e1 e2 => ih i v d e1 e2 (cmp_at h i d e2))
  | tup e n _ ih => exact fun h => by rw [pyD]; exact .tup (e.mono ex).sq (dps_of n fun i v d e1 e2 => ih i v d e1 e2 (cmp_at h i d e2))
  | ptup e n _ ih => exact fun h => by rw [pyD]; exact .tup (SqT.of (ex _ _ e)) (dps_of n fun i v d e1 e2 => ih i v d e1 e2 (cmp_at h i d e2))
  | dic _ _ _ _ _ => exact fun h => by cases h
theorem o2_eqDD {d e : D} (hd : cmpD d = true) (he : cmpD e = true) (sd : SeqAt.shaped (pyD d) = true) (se : SeqAt.shaped (pyD e) = true) (q : Q (.d (.bl (PyData.eqv (pyD d) (pyD e)))) ρ) : O2 (rEqD K) (.d d) (.d e) ρ Q := fun H v w s rv rw Kk k =>
  ⟨pyD d, pyD e, rep_dp (hf_ex _ _) rv hd, rep_dp (hf_ex _ _) rw he, sd, se, tk_same k s (x := .d (.bl _)) (Rep.bl _) q⟩
theorem o2_neDD {d e : D} (hd : cmpD d = true) (he : cmpD e = true) (sd : SeqAt.shaped (pyD d) = true) (se : SeqAt.shaped (pyD e) = true) (q : Q (.d (.bl (!PyData.eqv (pyD d) (pyD e)))) ρ) : O2 (rNeD K) (.d d) (.d e) ρ Q := fun H v w s rv rw Kk k =>
  ⟨pyD d, pyD e, rep_dp (hf_ex _ _) rv hd, rep_dp (hf_ex _ _) rw he, sd, se, tk_same k s (x := .d (.bl _)) (Rep.bl _) q⟩
end
/-! texts in rows -/
theorem pyDs_map {α : Type} (f : α → D) : ∀ l : List α, pyDs (l.map f) = l.map fun x => pyD (f x)
  | [] => rfl
  | x :: l => congrArg _ (pyDs_map f l)
theorem cmpDs_all {l : List D} (h : ∀ d, d ∈ l → cmpD d = true) : cmpDs l = true := by
  induction l with
  | nil => rfl
  | cons d l ih =>
    show (cmpD d && cmpDs l) = true
    rw [h d List.mem_cons_self, ih fun e he => h e (List.mem_cons_of_mem _ he)]
    rfl
theorem cleanDs_all {l : List D} (h : ∀ d, d ∈ l → cleanD d = true) : cleanDs l = true := by
  induction l with
  | nil => rfl
  | cons d l ih =>
    show (cleanD d && cleanDs l) = true
    rw [h d List.mem_cons_self, ih fun e he => h e (List.mem_cons_of_mem _ he)]
    rfl
theorem canLay_all : ∀ {l : List PyData}, (∀ d, d ∈ l → d.canLay0 = true) → PyData.canLayAll0 l = true
  | [], _ => by rw [PyData.canLayAll0]
  | d :: l, h => by
    rw [PyData.canLayAll0, h d List.mem_cons_self, canLay_all fun e he => h e (List.mem_cons_of_mem _ he)]
    rfl
theorem depth_all {n : Nat} : ∀ {l : List PyData}, (∀ d, d ∈ l → d.depth ≤ n) → PyData.depthAll l ≤ n
  | [], _ => by rw [PyData.depthAll]; omega
  | d :: l, h => by
    rw [PyData.depthAll]
    have h1 := h d List.mem_cons_self
    have h2 := depth_all (l := l) fun e he => h e (List.mem_cons_of_mem _ he)
    omega
section
variable {ρ : Sto} {Q : QA} {K : PySem.W.Frag} {x : A}
/-- list(xs): a new one, as data; of a list, a tuple -/
theorem on_listL {ds : List D} (l : LsA x ρ (ds.map .d)) (q : Q (.d (.lst ds)) ρ) : ON (fun xs H Q => ∃ p ys, xs = [.ref p] ∧ (SqL K H p ys ∨ SqT K H p ys) ∧ ∀ l, H l = none → Q (.ref l) (upd H l (.lst ys))) [x] ρ Q := fun H vs s rs Kk k => by
  match vs, rs with
  | [v], .cons r .nil =>
    obtain ⟨p, ws, rfl, hp, rs⟩ := l.at_ s r
    exact ⟨p, ws, rfl, .inl (SqL.of hp), fun a ha => tk_lst s rs k q ha⟩
theorem on_listT {ds : List D} (q : Q (.d (.lst ds)) ρ) : ON (fun xs H Q => ∃ p ys, xs = [.ref p] ∧ (SqL K H p ys ∨ SqT K H p ys) ∧ ∀ l, H l = none → Q (.ref l) (upd H l (.lst ys))) [.d (.tup ds)] ρ Q := fun H vs s rs Kk k => by
  match vs, rs with
  | [v], .cons r .nil =>
    obtain ⟨p, ws, rfl, hp, rs⟩ := tup_at r
    exact ⟨p, ws, rfl, .inr hp.sq, fun a ha => tk_lst s rs k q ha⟩
end
end AB
set_option Elab.async false
set_option linter.all false
set_option maxRecDepth 100000
set_option maxHeartbeats 4000000
/-! x ** y of greater numbers. -/
namespace AB
open PySem PySem.Spec PyProof.Rows L2 Evl KX
def CPowW (i j : Int) : Prop := 0 ≤ j ∧ (Builtin.Int.intBits i : Int) * j ≤ 2 ^ 27
theorem op_powW {X : Cx} : OpR X (binaryOp .Pow) (rI CPowW fun i j => .int (i ^ j.toNat)) := opI fun _ _ _ _ _ _ _ hc q => pow_int hc.1 hc.2 q
/-! rules that speak of K, within a comprehension's block -/
section
variable {X : Cx} {K : PySem.W.Frag}
theorem ixR_K {r : PySem.W.Frag → R2} (hK : X.K = K) (h : IxR X (r X.K)) : IxR X (r K) := hK ▸ h
theorem opR_K {r : PySem.W.Frag → R2} {f : Value → Value → Sem Value} (hK : X.K = K) (h : OpR X f (r X.K)) : OpR X f (r K) := hK ▸ h
theorem callR_K {r : PySem.W.Frag → List V → Hp → VK → Prop} {f : Value} (hK : X.K = K) (h : CallR X f (r X.K)) : CallR X f (r K) := hK ▸ h
theorem slR_K {r : PySem.W.Frag → V → Option Int → Option Int → Hp → VK → Prop} (hK : X.K = K) (h : SlR X (r X.K)) : SlR X (r K) := hK ▸ h
theorem mtR_K {r : PySem.W.Frag → V → List V → Hp → VK → Prop} {id : String} (hK : X.K = K) (h : MtR X id (r X.K)) : MtR X id (r K) := hK ▸ h
abbrev rLenK (K : PySem.W.Frag) : List V → Hp → VK → Prop := fun xs H Q => ∃ p ys, xs = [.ref p] ∧ (SqL K H p ys ∨ SqT K H p ys) ∧ Q (.int ys.length) H
abbrev rTupK (K : PySem.W.Frag) : List V → Hp → VK → Prop := fun xs H Q => ∃ p ys, xs = [.ref p] ∧ ((SqL K H p ys ∧ NewZ H ys Q) ∨ (SqT K H p ys ∧ Q (.ref p) H))
abbrev rLstK (K : PySem.W.Frag) : List V → Hp → VK → Prop := fun xs H Q => ∃ p ys, xs = [.ref p] ∧ (SqL K H p ys ∨ SqT K H p ys) ∧ ∀ l, H l = none → Q (.ref l) (upd H l (.lst ys))
theorem pe_bm_K {e : Expr} {T : String} {r : V → List V → Hp → VK → Prop} {to : TE} {t : TA} (hK : X.K = K) (h : PE X e (tBM X.K T r to t)) : PE X e (tBM K T r to t) := hK ▸ h
theorem pe_bm0_K {e : Expr} {T : String} {r : V → List V → Hp → VK → Prop} {to : TE} (hK : X.K = K) (h : PE X e (tBM0 X.K T r to)) : PE X e (tBM0 K T r to) := hK ▸ h
/-- truth of a value, as a test -/
abbrev tTruK (K : PySem.W.Frag) (ta : TE) : TT := fun σ H Q => ta σ H fun x H' => ∃ k, TruV K x H' k ∧ Q k H'
theorem pt_truK {a : Expr} {ta : TE} (hK : X.K = K) (h : PT X a (tTruK X.K ta)) : PT X a (tTruK K ta) := hK ▸ h
end
end AB
set_option Elab.async false
set_option linter.all false
set_option maxRecDepth 100000
set_option maxHeartbeats 4000000
/-! Slices of mapped rows; counts. -/
namespace AB
open PySem PySem.Spec PyProof.Rows L2 Evl KX
def cutA {α : Type} (xs : List α) (lo hi : Option Int) : List α := (xs.drop (HT.sIx xs.length 0 lo)).take (HT.sIx xs.length xs.length hi - HT.sIx xs.length 0 lo)
theorem cutD_map {α : Type} (f : α → D) (l : List α) (lo hi : Option Int) : cutD (l.map f) lo hi = (cutA l lo hi).map f := by
  unfold cutD cutA
  rw [List.length_map, List.map_take, List.map_drop]
theorem sIx_to (n d k : Nat) : HT.sIx n d (some (k : Int)) = min k n := by
  exact HT.sIx_nat n d k
theorem cutA_to {α : Type} (l : List α) (k : Nat) : cutA l none (some (k : Int)) = l.take k := by
  unfold cutA
  rw [sIx_to, show HT.sIx l.length 0 none = 0 from rfl, List.drop_zero, Nat.sub_zero]
  rcases Nat.le_total k l.length with h | h
  · rw [Nat.min_eq_left h]
  · rw [Nat.min_eq_right h, List.take_length, List.take_of_length_le h]
theorem cutA_from {α : Type} (l : List α) (k : Nat) : cutA l (some (k : Int)) none = l.drop k := by
  unfold cutA
  rw [sIx_to, show HT.sIx l.length l.length none = l.length from rfl]
  rcases Nat.le_total k l.length with h | h
  · rw [Nat.min_eq_left h, List.take_of_length_le (by rw [List.length_drop]; exact Nat.le_refl _)]
  · rw [Nat.min_eq_right h, List.drop_length, List.drop_of_length_le h, List.take_nil]
section
variable {ρ : Sto} {Q : QA} {x y : A} {K : PySem.W.Frag}
theorem nums_rs {H : Hp} : ∀ ns : List Int, RAs H ρ (ns.map V.int) ((ns.map D.int).map .d)
  | [] => .nil
  | n :: ns => .cons (Rep.int n) (nums_rs ns)
/-- a slice of the script -/
theorem o3_scr {ns : List Int} {lo hi : Option Int} (q : Q (.d (.lst (cutD (ns.map D.int) lo hi))) ρ) : O3 (rSlL K) (.s K ns) lo hi ρ Q := fun H v s rv Kk k => by
  obtain ⟨p, rfl, h⟩ := rv
  exact ⟨p, _, rfl, ex_l (hf_ex ρ H) h, fun a ha => tk_lst s (cut_pair (nums_rs ns) lo hi) k q ha⟩
/-- xs + ys: a new list of the store -/
theorem o2_catM {xs ys : List A} (l : LsA x ρ xs) (l' : LsA y ρ ys) (hz : xs.length + ys.length ≤ 100000) (q : ∀ a, ρ a = none → Q (.m a) (pu ρ a (.lst (xs ++ ys)))) : O2 rCat x y ρ Q := fun H v w s rv rw Kk k => by
  obtain ⟨p, vs, rfl, hp, rs⟩ := l.at_ s rv
  obtain ⟨p', ws, rfl, hp', rs'⟩ := l'.at_ s rw
  have e1 := rs.length
  have e2 := rs'.length
  exact ⟨p, p', vs, ws, rfl, rfl, hp, hp', sz_of (by omega), fun a ha => tk_lstM s (paired_app rs rs') k q ha⟩
theorem rgA_src (lo : Int) (n : Nat) : rgA lo n = ((List.range n).map fun i => D.int (lo + (i : Nat))).map .d := by
  unfold rgA
  rw [List.map_map]
  rfl
end
theorem sub_two {ρ : Sto} {a b : Addr} {o u : Mo} (ha : ρ a = none) (hb : b ≠ a) : Sub (pu ρ b u) (pu (pu ρ a o) b u) := fun c z e => by
  by_cases h : c = b
  · rw [h, pu_same] at e ⊢
    exact e
  · rw [pu_ne h] at e ⊢
    rw [pu_ne (ne_pu e ha)]
    exact e
section
variable {ρ : Sto} {Q : QA} {x y : A} {K : PySem.W.Frag}
/-- x + y of texts -/
theorem o2_addS {i j : Str} (hz : i.length + j.length ≤ 1000000) (q : Q (.d (.str (i ++ j))) ρ) : O2 (fun x y H Q => ∃ i j, x = .str i ∧ y = .str j ∧ i.length + j.length ≤ sizeLine ∧ Q (.str (i ++ j)) H) (.d (.str i)) (.d (.str j)) ρ Q := fun H v w s rv rw Kk k => by
  cases rv
  cases rw
  exact ⟨i, j, rfl, rfl, by rw [sizeLine_eq]; omega, tk_same k s (x := .d (.str _)) (Rep.str _) q⟩
theorem inD_strs {x : Str} : ∀ l : List Str, inD (.str x) (l.map D.str) = decide (x ∈ l)
  | [] => rfl
  | y :: l => by
    show (eqD (.str y) (.str x) || inD (.str x) (l.map D.str)) = _
    rw [inD_strs l]
    by_cases h : y = x
    · subst h
      rw [show eqD (.str y) (.str y) = true from beq_self_eq_true y, decide_eq_true List.mem_cons_self]
      rfl
    · rw [show eqD (.str y) (.str x) = false from beq_eq_false_iff_ne.mpr h, Bool.false_or]
      exact decide_eq_decide.mpr ⟨List.mem_cons_of_mem _, fun z => (List.mem_cons.mp z).resolve_left fun e => h e.symm⟩
theorem flat_strsD (l : List Str) : (l.map D.str).all flatD = true := List.all_eq_true.mpr fun d hd => by
  obtain ⟨z, _, rfl⟩ := List.mem_map.mp hd
  rfl
/-- a text in a row of texts -/
theorem o2_inS {neg : Bool} {z : Str} {l : List Str} (h : LsA y ρ ((l.map D.str).map .d) ∨ y = .d (.tup (l.map D.str))) (q : Q (.d (.bl (if neg then !decide (z ∈ l) else decide (z ∈ l)))) ρ) : O2 (rIn K neg) (.d (.str z)) y ρ Q :=
  o2_in h rfl (flat_strsD l) (by rw [inD_strs]; exact q)
end
theorem WS.thn {ts : TS} {γ : Env} {ρ : Sto} {C : KA} {P : Env → Sto → Prop} (h : WS ts γ ρ { C with nx := P }) (k : ∀ γ' ρ', P γ' ρ' → C.nx γ' ρ') : WS ts γ ρ C := fun H σ s e D kk =>
  h H σ s e D ⟨fun H' ρ' σ' γ' a b c d => kk.nx H' ρ' σ' γ' a b c (k γ' ρ' d), kk.rt, kk.bk, kk.ct⟩
theorem ws_seqP {tu tw : TS} {γ : Env} {ρ : Sto} {C : KA} {P : Env → Sto → Prop} (h : WS tu γ ρ { C with nx := P }) (k : ∀ γ' ρ', P γ' ρ' → WS tw γ' ρ' C) : WS (tSeq tu tw) γ ρ C :=
  ws_seq (WS.thn h k)
theorem WI.mono {wi : TI} {γ : Env} {ρ : Sto} {Q Q' : List A → (Sto → Prop) → Sto → Prop} (h : WI wi γ ρ Q) (k : ∀ xs G ρ', Q xs G ρ' → Q' xs G ρ') : WI wi γ ρ Q' := fun H σ s e R kk =>
  h H σ s e R fun H' ρ' J xs G a b c d => kk H' ρ' J xs G a b c (k xs G ρ' d)
/-- len of a dict, a locked one too -/
def rLenR : List V → Hp → VK → Prop := fun xs H Q => ∃ a kvs, xs = [V.ref a] ∧ Rd H a (.dK kvs) ∧ Q (.int kvs.length) H
theorem call_lenR {X : Cx} : CallR X (.builtin "len") rLenR := by
  intro pins s σ H xs us Q I r h
  obtain ⟨a, kvs, rfl, ha, q⟩ := h
  obtain ⟨u, rfl, ru⟩ := vals1 r
  cases ru
  exact d_len I ha fun t s' I' => ⟨.int kvs.length, H, I', ⟨t, rfl⟩, q⟩
section
variable {ρ : Sto} {Q : QA}
theorem on_lenDic {ks : List Key} {ds : List D} (hl : ks.length = ds.length) (q : Q (.d (.int ds.length)) ρ) : ON rLenR [.d (.dic ks ds)] ρ Q := fun H vs s rs Kk k => by
  match vs, rs with
  | [v], .cons r .nil =>
    obtain ⟨p, o, kvs, rfl, e, hk, rs⟩ := dic_at r
    have : kvs.length = ds.length := by rw [← hl, ← hk, List.length_map]
    exact ⟨p, kvs, rfl, .inr ⟨o, e⟩, by rw [this]; exact tk_same k s (x := .d (.int _)) (Rep.int _) q⟩
theorem on_lenDK {a : Addr} {kvs : List (Key × A)} (h : ρ a = some (.dK kvs)) (q : Q (.d (.int kvs.length)) ρ) : ON rLenR [.m a] ρ Q := fun H vs s rs Kk k => by
  match vs, rs with
  | [v], .cons r .nil =>
    cases (show v = .ref a from r)
    obtain ⟨ws, ew, rw_⟩ := s a _ h
    exact ⟨a, ws, rfl, .inl ew, by rw [rw_.length]; exact tk_same k s (x := .d (.int _)) (Rep.int _) q⟩
end
end AB
set_option linter.all false
/-! The walk of names whose ties ahead are done (plain). -/
namespace KN
variable {N : Type} [DecidableEq N]
def outs (ties : List (N × N)) (u : N) : List N := (ties.filter fun t => decide (t.1 = u)).map (·.2)
def inc (ties : List (N × N)) (D : List N) (x : N) : Nat := (ties.filter fun t => decide (t.2 = x) && !decide (t.1 ∈ D)).length
theorem inc_nil (D : List N) (x : N) : inc ([] : List (N × N)) D x = 0 := rfl
theorem inc_cons (t : N × N) (ties : List (N × N)) (D : List N) (x : N) : inc (t :: ties) D x = (if t.2 = x ∧ t.1 ∉ D then 1 else 0) + inc ties D x := by
  unfold inc
  rw [List.filter_cons]
  by_cases h : t.2 = x ∧ t.1 ∉ D
  · rw [if_pos (by simp [h.1, h.2]), if_pos h, List.length_cons, Nat.add_comm]
  · rw [if_neg (by simpa using h), if_neg h, Nat.zero_add]
theorem outs_cons (t : N × N) (ties : List (N × N)) (u : N) : outs (t :: ties) u = if t.1 = u then t.2 :: outs ties u else outs ties u := by
  unfold outs
  rw [List.filter_cons]
  by_cases h : t.1 = u
  · rw [if_pos (by simp [h]), if_pos h]
    rfl
  · rw [if_neg (by simpa using h), if_neg h]
theorem inc_snoc {D : List N} {u : N} (hu : u ∉ D) (x : N) : ∀ ties : List (N × N), inc ties D x = inc ties (D ++ [u]) x + (outs ties u).count x
  | [] => rfl
  | t :: ties => by
    rw [inc_cons, inc_cons, outs_cons, inc_snoc hu x ties]
    by_cases e : t.1 = u
    · rw [if_pos e]
      have n1 : t.1 ∉ D := by rw [e]; exact hu
      have n2 : ¬ (t.2 = x ∧ t.1 ∉ D ++ [u]) := fun h => h.2 (by rw [e]; simp)
      rw [if_neg n2, List.count_cons]
      by_cases c : t.2 = x
      · rw [if_pos ⟨c, n1⟩, if_pos (by simp [c])]
        omega
      · rw [if_neg (fun h => c h.1), if_neg (by simpa using c)]
        omega
    · rw [if_neg e]
      have : (t.2 = x ∧ t.1 ∉ D ++ [u]) ↔ (t.2 = x ∧ t.1 ∉ D) := by
        constructor
        · rintro ⟨a, b⟩
          exact ⟨a, fun m => b (List.mem_append_left _ m)⟩
        · rintro ⟨a, b⟩
          refine ⟨a, fun m => ?_⟩
          rcases List.mem_append.mp m with z | z
          · exact b z
          · exact e (List.mem_singleton.mp z)
      by_cases c : t.2 = x ∧ t.1 ∉ D
      · rw [if_pos c, if_pos (this.mpr c)]
        omega
      · rw [if_neg c, if_neg (fun z => c (this.mp z))]
        omega
theorem inc_app (l : List (N × N)) (t : N × N) (D : List N) (x : N) : inc (l ++ [t]) D x = inc l D x + (if t.2 = x ∧ t.1 ∉ D then 1 else 0) := by
  unfold inc
  rw [List.filter_append, List.length_append]
  congr 1
  by_cases h : t.2 = x ∧ t.1 ∉ D
  · rw [if_pos h, List.filter_cons, if_pos (by simp [h.1, h.2])]
    rfl
  · rw [if_neg h, List.filter_cons, if_neg (by simpa using h)]
    rfl
theorem outs_app (l : List (N × N)) (t : N × N) (u : N) : outs (l ++ [t]) u = outs l u ++ (if t.1 = u then [t.2] else []) := by
  unfold outs
  rw [List.filter_append, List.map_append]
  congr 1
  by_cases h : t.1 = u
  · rw [if_pos h, List.filter_cons, if_pos (by simp [h])]
    rfl
  · rw [if_neg h, List.filter_cons, if_neg (by simpa using h)]
    rfl
theorem inc_zero {ties : List (N × N)} {D : List N} {x : N} : inc ties D x = 0 ↔ ∀ t ∈ ties, t.2 = x → t.1 ∈ D := by
  unfold inc
  rw [List.length_eq_zero_iff, List.filter_eq_nil_iff]
  constructor
  · intro h t ht e
    by_cases m : t.1 ∈ D
    · exact m
    · exact absurd (by simp [e, m]) (h t ht)
  · intro h t ht
    simp only [Bool.and_eq_true, decide_eq_true_eq, Bool.not_eq_true', decide_eq_false_iff_not, not_and, Classical.not_not]
    exact fun e => h t ht e
/-- within the loop over u's outs, k of them done; D: the names done, u among them -/
structure In (names : List N) (ties : List (N × N)) (D W : List N) (rest : List N) (cnt : N → Int) : Prop where
  nd : W.Nodup
  sub : ∀ x, x ∈ W → x ∈ names
  pre : ∃ E, W = D ++ E
  cn : ∀ x, x ∈ names → cnt x = inc ties D x + rest.count x
  mem : ∀ x, x ∈ names → (x ∈ W ↔ cnt x = 0)
  top : ∀ t, t ∈ ties → ∀ j : Nat, W[j]? = some t.2 → ∃ i : Nat, i < j ∧ W[i]? = some t.1
theorem In.start {names : List N} {ties : List (N × N)} {W : List N} (nd : W.Nodup) (hW : ∀ x, x ∈ W ↔ x ∈ names ∧ inc ties [] x = 0) : In names ties [] W [] (fun x => (inc ties [] x : Int)) := by
  refine ⟨nd, fun x hx => ((hW x).mp hx).1, ⟨W, rfl⟩, fun x hx => by simp, fun x hx => ⟨fun h => by have := ((hW x).mp h).2; omega, fun h => (hW x).mpr ⟨hx, by omega⟩⟩, fun t ht j hj => ?_⟩
  have h := ((hW t.2).mp (List.mem_of_getElem? hj)).2
  have := (inc_zero.mp h) t ht rfl
  simp at this
/-- the next name u is taken -/
theorem In.next {names : List N} {ties : List (N × N)} {D W : List N} {cnt : N → Int} (h : In names ties D W [] cnt) {u : N} (hu : W[D.length]? = some u) : In names ties (D ++ [u]) W (outs ties u) cnt := by
  obtain ⟨E, hE⟩ := h.pre
  have hE' : ∃ E', E = u :: E' := by
    rw [hE, List.getElem?_append_right (Nat.le_refl _), Nat.sub_self] at hu
    cases E with
    | nil => simp at hu
    | cons a E' =>
      cases Option.some.inj hu
      exact ⟨E', rfl⟩
  obtain ⟨E', rfl⟩ := hE'
  have nu : u ∉ D := fun m => by
    have := h.nd
    rw [hE, List.nodup_append] at this
    exact this.2.2 u m u List.mem_cons_self rfl
  refine ⟨h.nd, h.sub, ⟨E', by rw [hE]; simp⟩, fun x hx => ?_, h.mem, h.top⟩
  rw [h.cn x hx, inc_snoc nu x ties]
  simp
theorem In.step {names : List N} {ties : List (N × N)} {D W rest : List N} {cnt cnt' : N → Int} {y : N} (h : In names ties D W (y :: rest) cnt) (hy : y ∈ names) (hc : ∀ x, cnt' x = if x = y then cnt y - 1 else cnt x) :
    (cnt' y ≠ 0 → In names ties D W rest cnt') ∧ (cnt' y = 0 → In names ties D (W ++ [y]) rest cnt') := by
  have c1 : ∀ x, x ∈ names → cnt' x = inc ties D x + rest.count x := fun x hx => by
    rw [hc]
    by_cases e : x = y
    · subst e
      rw [if_pos rfl, h.cn x hx, List.count_cons_self]
      omega
    · rw [if_neg e, h.cn x hx, List.count_cons_of_ne (fun z => e z.symm)]
  have hyc : cnt y ≠ 0 := by
    rw [h.cn y hy, List.count_cons_self]
    omega
  have nyW : y ∉ W := fun m => hyc ((h.mem y hy).mp m)
  have m1 : ∀ x, x ∈ names → x ≠ y → (x ∈ W ↔ cnt' x = 0) := fun x hx e => by
    rw [hc, if_neg e]
    exact h.mem x hx
  constructor
  · intro z
    refine ⟨h.nd, h.sub, h.pre, c1, fun x hx => ?_, h.top⟩
    by_cases e : x = y
    · rw [e]
      exact ⟨fun m => absurd m nyW, fun q => absurd q z⟩
    · exact m1 x hx e
  · intro z
    obtain ⟨E, hE⟩ := h.pre
    refine ⟨?_, ?_, ⟨E ++ [y], by rw [hE]; simp⟩, c1, fun x hx => ?_, ?_⟩
    · rw [List.nodup_append]
      refine ⟨h.nd, by simp, fun a ha b hb e => ?_⟩
      rw [List.mem_singleton.mp hb] at e
      rw [e] at ha
      exact nyW ha
    · intro x hx
      rcases List.mem_append.mp hx with q | q
      · exact h.sub x q
      · rw [List.mem_singleton.mp q]
        exact hy
    · by_cases e : x = y
      · rw [e]
        exact ⟨fun _ => z, fun _ => by simp⟩
      · rw [List.mem_append]
        constructor
        · rintro (q | q)
          · exact (m1 x hx e).mp q
          · exact absurd (List.mem_singleton.mp q) e
        · exact fun q => .inl ((m1 x hx e).mpr q)
    · intro t ht j hj
      rcases Nat.lt_or_ge j W.length with q | q
      · rw [List.getElem?_append_left q] at hj
        obtain ⟨i, hi, e⟩ := h.top t ht j hj
        exact ⟨i, hi, by rw [List.getElem?_append_left (by omega)]; exact e⟩
      · rw [List.getElem?_append_right q] at hj
        have e0 : j - W.length = 0 := by
          have := (List.getElem?_eq_some_iff.mp hj).1
          simp at this
          omega
        rw [e0] at hj
        have ey : y = t.2 := Option.some.inj hj
        have i0 : inc ties D y = 0 := by
          have := c1 y hy
          rw [z] at this
          omega
        have hD := (inc_zero.mp i0) t ht ey.symm
        obtain ⟨i, hi, e⟩ := List.mem_iff_getElem.mp hD
        have hl : i < W.length := by
          rw [hE, List.length_append]
          omega
        refine ⟨i, by omega, ?_⟩
        rw [List.getElem?_append_left hl, hE, List.getElem?_append_left hi, List.getElem?_eq_getElem hi, e]
/-- all done: every name is there -/
theorem In.all {names : List N} {ties : List (N × N)} {W : List N} {cnt : N → Int} (h : In names ties W W [] cnt) {rank : N → Nat} (hr : ∀ t, t ∈ ties → rank t.1 < rank t.2) (hn : ∀ t, t ∈ ties → t.1 ∈ names) : ∀ x, x ∈ names → x ∈ W := by
  have main : ∀ (n : Nat) (x : N), rank x < n → x ∈ names → x ∈ W := by
    intro n
    induction n with
    | zero => intro x hx; omega
    | succ n ih =>
      intro x hx hm
      refine (h.mem x hm).mpr ?_
      rw [h.cn x hm]
      have : inc ties W x = 0 := inc_zero.mpr fun t ht e => ih t.1 (by have := hr t ht; rw [e] at this; omega) (hn t ht)
      simp [this]
  exact fun x hx => main (rank x + 1) x (Nat.lt_succ_self _) hx
theorem nodup_len : ∀ {l m : List N}, l.Nodup → (∀ x, x ∈ l → x ∈ m) → l.length ≤ m.length
  | [], _, _, _ => Nat.zero_le _
  | x :: l, m, nd, h => by
    have nd' := List.nodup_cons.mp nd
    have hx := h x List.mem_cons_self
    have := nodup_len (l := l) (m := m.erase x) nd'.2 fun y hy => by
      have hne : y ≠ x := fun e => nd'.1 (by rw [← e]; exact hy)
      exact (List.mem_erase_of_ne hne).mpr (h y (List.mem_cons_of_mem _ hy))
    rw [List.length_erase_of_mem hx] at this
    have := List.length_pos_of_mem hx
    rw [List.length_cons]
    omega
theorem range_fm {α β : Type} (l : List α) (g : α → Option β) : ∀ n : Nat, n ≤ l.length → (List.range n).filterMap (fun i => (l[i]?).bind g) = (l.take n).filterMap g
  | 0, _ => by simp
  | n + 1, h => by
    have e : l[n]? = some l[n] := List.getElem?_eq_getElem (by omega)
    rw [List.range_succ, List.filterMap_append, range_fm l g n (by omega), List.take_succ, e, List.filterMap_append]
    congr 1
    simp only [List.filterMap_cons, List.filterMap_nil, e, Option.bind_some, Option.toList_some]
theorem fm_filter {α β : Type} (c : α → Bool) (f : α → β) : ∀ l : List α, l.filterMap (fun x => if c x = true then some (f x) else none) = (l.filter c).map f
  | [] => rfl
  | x :: l => by
    rw [List.filterMap_cons, List.filter_cons, fm_filter c f l]
    cases c x <;> rfl
end KN
set_option linter.all false
set_option maxRecDepth 100000
/-! A matching (right to left) and the turn of a path (plain). -/
namespace PF
open AB
variable {N : Type} [DecidableEq N]
theorem val_put (l : List (N × N)) (x v y : N) : valA (putA l x v) y = if y = x then some v else valA l y := by
  unfold putA
  split
  · rename_i h
    induction l with
    | nil => simp at h
    | cons p l ih =>
      rw [List.map_cons]
      by_cases e : p.1 = x
      · rw [if_pos e]
        by_cases c : y = x
        · rw [if_pos c, valA_pos (by rw [c]; exact e)]
        · rw [if_neg c, valA_neg (fun z => c (by rw [← e]; exact z.symm)), valA_neg (fun z => c (by rw [← e]; exact z.symm))]
          by_cases h2 : (l.any fun kv => decide (kv.1 = x)) = true
          · rw [ih h2, if_neg c]
          · have : (l.map fun kv => if kv.1 = x then (kv.1, v) else kv) = l := by
              apply List.ext_getElem?
              intro i
              rw [List.getElem?_map]
              cases eq : l[i]? with
              | none => rfl
              | some kv =>
                have hm := List.mem_of_getElem? eq
                have : ¬ kv.1 = x := fun z => h2 (List.any_eq_true.mpr ⟨kv, hm, decide_eq_true z⟩)
                show some (if kv.1 = x then (kv.1, v) else kv) = some kv
                rw [if_neg this]
            rw [this]
      · rw [if_neg e]
        have h2 : (l.any fun kv => decide (kv.1 = x)) = true := by
          rw [List.any_cons, decide_eq_false e, Bool.false_or] at h
          exact h
        by_cases c : p.1 = y
        · rw [valA_pos c, valA_pos c, if_neg (fun z => e (by rw [c, z]))]
        · rw [valA_neg c, valA_neg c]
          exact ih h2
  · rename_i h
    have nx : x ∉ l.map Prod.fst := fun m => by
      obtain ⟨p, hp, e⟩ := List.mem_map.mp m
      exact h (List.any_eq_true.mpr ⟨p, hp, decide_eq_true e⟩)
    clear h
    induction l with
    | nil =>
      by_cases c : y = x
      · rw [if_pos c]
        exact valA_pos c.symm
      · rw [if_neg c]
        exact valA_neg (fun z => c z.symm)
    | cons p l ih =>
      rw [List.map_cons, List.mem_cons, not_or] at nx
      rw [List.cons_append]
      by_cases c : p.1 = y
      · rw [valA_pos c, valA_pos c, if_neg (fun z => nx.1 (by rw [← z, c]))]
      · rw [valA_neg c, valA_neg c]
        exact ih nx.2
/-- injective, but for the name f -/
def InjBut (M : List (N × N)) (f : Option N) : Prop := ∀ x y l, f ≠ some x → f ≠ some y → valA M x = some l → valA M y = some l → x = y
/-- one turn of a path: f gets the partner l of g -/
theorem flip {M : List (N × N)} {f g l : N} (h : InjBut M (some f)) (hfg : f ≠ g) (hg : valA M g = some l) : InjBut (putA M f l) (some g) := fun x y v hx hy ex ey => by
  rw [val_put] at ex ey
  by_cases c : x = f
  · by_cases d : y = f
    · rw [c, d]
    · rw [if_pos c] at ex
      rw [if_neg d] at ey
      cases ex
      exact absurd (congrArg some (h g y l (fun z => hfg (Option.some.inj z)) (fun z => d (Option.some.inj z).symm) hg ey)) hy
  · by_cases d : y = f
    · rw [if_pos d] at ey
      rw [if_neg c] at ex
      cases ey
      exact absurd (congrArg some (h g x l (fun z => hfg (Option.some.inj z)) (fun z => c (Option.some.inj z).symm) hg ex)) hx
    · rw [if_neg c] at ex
      rw [if_neg d] at ey
      exact h x y v (fun z => c (Option.some.inj z).symm) (fun z => d (Option.some.inj z).symm) ex ey
/-- the last turn: f gets the start, that nobody has -/
theorem flip_end {M : List (N × N)} {f l : N} (h : InjBut M (some f)) (hl : ∀ x, x ≠ f → valA M x ≠ some l) : InjBut (putA M f l) none := fun x y v _ _ ex ey => by
  rw [val_put] at ex ey
  by_cases c : x = f
  · by_cases d : y = f
    · rw [c, d]
    · rw [if_pos c] at ex
      rw [if_neg d] at ey
      cases ex
      exact absurd ey (hl y d)
  · by_cases d : y = f
    · rw [if_pos d] at ey
      rw [if_neg c] at ex
      cases ey
      exact absurd ex (hl x c)
    · rw [if_neg c] at ex
      rw [if_neg d] at ey
      exact h x y v (fun z => c (Option.some.inj z).symm) (fun z => d (Option.some.inj z).symm) ex ey
end PF
set_option Elab.async false
set_option linter.all false
set_option maxRecDepth 100000
set_option maxHeartbeats 4000000
namespace K82
open PySem PySem.Spec PyProof.Rows L2 Evl HB AB
def topS (i : Nat) : Stmt := PySem.Challenge.pw_donebytwo_k82_whole_widest_and_coverings.main.body.getD i (.Pass ⟨0, 0, 0, 0⟩)
structure Tz (mg : Str → Option Value) : Prop where
  z_len : mg "len" = none
  z_isinstance : mg "isinstance" = none
  z_any : mg "any" = none
  z_all : mg "all" = none
  z_int : mg "int" = none
  z_str : mg "str" = none
  z_tuple : mg "tuple" = none
  z_list : mg "list" = none
  z_range : mg "range" = none
  z_sorted : mg "sorted" = none
  z_reversed : mg "reversed" = none
  z_enumerate : mg "enumerate" = none
  z_max : mg "max" = none
  z_min : mg "min" = none
end K82
set_option Elab.async false
set_option linter.all false
set_option maxRecDepth 100000
set_option maxHeartbeats 4000000
namespace K82
open PySem PySem.Spec PyProof.Rows L2 Evl HB AB
section
variable {P : Program} {w : World} {K : PySem.W.Frag} {mg : Str → Option Value} {base : Heap}
/-! ### _law_draw -/
abbrev s_law_draw : Stmt := topS 22
theorem sc_law_draw : FnScope ["pool", "many", "cell"] ["pool", "many"] (defScope s_law_draw) := ⟨rfl, rfl, rfl, by decide +kernel, rfl, by decide +kernel, by decide +kernel⟩
def intM (ns : List Int) : Mo := .lst (ns.map fun n => A.d (.int n))
def FDraw (xs : List A) (ρ : Sto) (R : QA) : Prop := ∃ p ns m, xs = [.m p, .d (.int m)] ∧ ρ p = some (intM ns) ∧ ns ≠ [] ∧ ns.length ≤ 1000 ∧ 0 < m ∧ m < 1073741824 ∧
  ∀ (r : Int) (ns' : List Int), 0 ≤ r → r < m → ns' ≠ [] → ns'.length ≤ 1000 → R (.d (.int r)) (pu ρ p (intM ns'))
theorem ok_draw {f : Addr} {fd : FuncData} (F : Fun K "_law_draw" "_law_draw" s_law_draw f fd) (T : Tz mg) : FnOk P w K mg base CX0 1 f fd ["pool", "many"] (spA FDraw) := by
  refine F.ok sc_law_draw (spA_len fun xs ρ R h => ?_) (fun cdv Ar outer s H vs Q E hr h => ?_)
  · obtain ⟨p, ns, m, rfl, _⟩ := h
    rfl
  · refine ⟨_, (pss_cons (ps_if (pt_cmpR op_gt (pe_callB call_len_seq (by rfl) T.z_len bt_len (pa_cons (pv 0) pa_nil)) pe_int (nomark _)) (pss_cons (ps_set (i := 2) sc_law_draw.nd rfl (Or.inl rfl) (pe_callTy call_int1 (by rfl) T.z_int bt_int (pa_cons (pe_bm0 PySem.F.plainAttrs_list PySem.F.slot_list_pop PySem.F.type_list_pop mt_pop (pv 0)) pa_nil)))
  (pss_cons (ps_if (pt_cmpR op_ge (pv 2) (pv 1) (nomark _)) (pss_one (ps_expr (pe_bm PySem.F.plainAttrs_list PySem.F.slot_list_append PySem.F.type_list_append mt_append (pv 0) (pa_cons (pe_op op_fdiv (pv 2) (pv 1)) pa_nil))))
  pss_nil)
  (pss_one (ps_ret (pe_op op_mod (pv 2) (pv 1))))))
  pss_nil)
  (pss_cons (ps_asg (pe_op op_mod (pe_op op_add (pe_op op_mul (pe_callTy call_int1 (by rfl) T.z_int bt_int (pa_cons (pe_ix ix_list (pv 0) pe_int (fun _ _ => rfl)) pa_nil)) pe_int) pe_int) pe_int) (pg_sub (pv 0) pe_int set_list))
  (pss_one (ps_ret (pe_op op_mod (pe_op op_fdiv (pe_callTy call_int1 (by rfl) T.z_int bt_int (pa_cons (pe_ix ix_list (pv 0) pe_int (fun _ _ => rfl)) pa_nil)) pe_int) (pv 1)))))), body_of h fun ρ xs R hF => ?_⟩
    obtain ⟨p, ns, m, rfl, hp, hne, hz, hm, hm2, k⟩ := hF
    have hl : (ns.map fun n => A.d (.int n)).length = ns.length := List.length_map _
    repeat (first | with_reducible refine ws_seq ?_ | with_reducible refine ws_if ?_ | with_reducible refine we_op ?_ | refine we_var rfl ?_ | with_reducible refine wa_cons ?_ | with_reducible refine wa_nil ?_ | with_reducible refine we_cb ?_ | with_reducible refine wt_test ?_)
    refine on_len (lsm hp) ?_
    repeat (first | with_reducible refine we_int ?_ | refine ⟨_, (rfl : AB.A.d (D.bl _) = _), ?_⟩ | refine o2_I0 (fun _ => Rep.bl _) ?_)
    refine ⟨fun c => ?_, fun c => ?_⟩
    · -- cell = int(pool.pop())
      have c1 : (1 : Int) < ((ns.map fun n => A.d (.int n)).length : Int) := of_decide_eq_true c
      obtain ⟨ms, z, rfl⟩ : ∃ ms z, ns = ms ++ [z] := ⟨ns.dropLast, ns.getLast hne, (List.dropLast_concat_getLast hne).symm⟩
      have hms : ms ≠ [] := fun e => by
        rw [e] at c1
        simp at c1
      have hmz : ms.length ≤ 999 := by
        simp at hz
        omega
      have hp' : ρ p = some (.lst (ms.map (fun n => A.d (.int n)) ++ [A.d (.int z)])) := by
        rw [hp]
        unfold intM
        rw [List.map_append]
        rfl
      with_reducible repeat (first | refine ws_seq ?_ | refine ws_asg ?_ | refine wa_cons ?_ | refine we_cb ?_)
      refine we_bm0 ?_
      repeat (first | refine we_var rfl ?_)
      refine ⟨ty_lst hp', on_pop hp' ?_⟩
      repeat (first | with_reducible refine ws_seq ?_ | with_reducible refine ws_if ?_ | with_reducible refine wg_name ?_ | with_reducible refine we_op ?_ | refine we_var rfl ?_ | with_reducible refine wa_nil ?_ | with_reducible refine wt_test ?_ | refine ⟨_, (rfl : AB.A.d (D.bl _) = _), ?_⟩ | refine o2_I0 (fun _ => Rep.bl _) ?_ | with_reducible refine on_int ?_)
      refine ⟨fun c => ?_, fun c => ?_⟩
      · with_reducible repeat (first | refine ws_drop ?_)
        refine we_bm ?_
        repeat (first | refine we_var rfl ?_)
        refine ⟨ty_lst pu_same, ?_⟩
        repeat (first | with_reducible refine we_op ?_ | refine we_var rfl ?_ | with_reducible refine wa_cons ?_ | with_reducible refine wa_nil ?_ | ((refine o2_I (fun _ => Rep.int _) ?_ ?_); (· first | assumption | decide | omega | (constructor <;> first | omega | decide))))
        refine on_append pu_same (by rw [List.length_map]; omega) ?_
        repeat (first | with_reducible refine ws_ret ?_ | with_reducible refine we_op ?_ | refine we_var rfl ?_ | ((refine o2_I (fun _ => Rep.int _) ?_ ?_); (· first | assumption | decide | omega | (constructor <;> first | omega | decide))))
        refine ⟨_, Sub.refl _, ?_⟩
        rw [pu_pu]
        have := k (z % m) (ms ++ [z / m]) (Int.emod_nonneg _ (by omega)) (Int.emod_lt_of_pos _ hm) (by simp) (by simp; omega)
        unfold intM at this
        rw [List.map_append] at this
        exact this
      · repeat (first | with_reducible refine ws_next ?_ | with_reducible refine ws_ret ?_ | with_reducible refine we_op ?_ | refine we_var rfl ?_ | ((refine o2_I (fun _ => Rep.int _) ?_ ?_); (· first | assumption | decide | omega | (constructor <;> first | omega | decide))))
        refine ⟨_, Sub.refl _, ?_⟩
        exact k (z % m) ms (Int.emod_nonneg _ (by omega)) (Int.emod_lt_of_pos _ hm) hms (by omega)
    · -- pool[0] = (int(pool[0]) * 52774 + 130003) % 2147483579
      obtain ⟨z, ms, rfl⟩ : ∃ z ms, ns = z :: ms := by
        cases ns with
        | nil => exact absurd rfl hne
        | cons z ms => exact ⟨z, ms, rfl⟩
      repeat (first | with_reducible refine ws_seq ?_ | with_reducible refine ws_asg ?_ | with_reducible refine ws_next ?_ | with_reducible refine we_op ?_ | refine we_var rfl ?_ | with_reducible refine we_int ?_ | with_reducible refine wa_cons ?_ | with_reducible refine we_cb ?_)
      refine o2_ixL (lsm hp) (i := ((0 : Nat) : Int)) (atI_nat' rfl) ?_
      with_reducible repeat (first | refine we_int ?_ | refine wa_nil ?_ | refine on_int ?_)
      refine o2_I (fun _ => Rep.int _) (.inr (by decide)) ?_
      repeat (first | with_reducible refine we_int ?_ | refine o2_I0 (fun _ => Rep.int _) ?_ | ((refine o2_I (fun _ => Rep.int _) ?_ ?_); (· first | assumption | decide | omega | (constructor <;> first | omega | decide))))
      refine wg_setL ?_
      repeat (first | refine we_var rfl ?_ | with_reducible refine we_int ?_)
      refine ⟨p, _, 0, rfl, rfl, hp, by simp, ?_⟩
      repeat (first | with_reducible refine ws_ret ?_ | with_reducible refine we_op ?_ | refine we_var rfl ?_ | with_reducible refine we_int ?_ | with_reducible refine wa_cons ?_ | with_reducible refine we_cb ?_)
      refine o2_ixL (lsm pu_same) (i := ((0 : Nat) : Int)) (atI_nat' rfl) ?_
      repeat (first | refine we_var rfl ?_ | with_reducible refine we_int ?_ | with_reducible refine wa_nil ?_ | ((refine o2_I (fun _ => Rep.int _) ?_ ?_); (· first | assumption | decide | omega | (constructor <;> first | omega | decide))) | with_reducible refine on_int ?_)
      refine ⟨_, Sub.refl _, ?_⟩
      exact k _ (((z * 52774 + 130003) % 2147483579) :: ms) (Int.emod_nonneg _ (by omega)) (Int.emod_lt_of_pos _ hm) (by simp) hz
end
end K82
set_option Elab.async false
set_option linter.all false
set_option maxRecDepth 100000
set_option maxHeartbeats 4000000
namespace KX
open PySem PySem.Spec PyProof.Rows L2
def rLtStr : R2 := fun x y H Q => ∃ i j, x = .str i ∧ y = .str j ∧ Q (.bl (decide (i.cps.toList < j.cps.toList))) H
def rLtST (K : PySem.W.Frag) : R2 := fun x y H Q => rLtStr x y H Q ∨ rLtTS K x y H Q
theorem op_ltST {X : Cx} (hu : X.A.units < cLine) : OpR X (compareOp .Lt) (rLtST X.K) := by
  intro pins s σ H x y v u Q I rx ry h
  rcases h with h | h
  · exact op_lt_str pins s σ H x y v u Q I rx ry h
  · exact op_ltTS hu pins s σ H x y v u Q I rx ry h
end KX
namespace AB
open PySem PySem.Spec PyProof.Rows L2 Evl KX
theorem o2_ltS {ρ : Sto} {Q : QA} {K : PySem.W.Frag} {x y : Str} (q : Q (.d (.bl (decide (x.cps.toList < y.cps.toList)))) ρ) : O2 (rLtST K) (.d (.str x)) (.d (.str y)) ρ Q := fun H v w s rv rw_ Kk k => by
  cases rv
  cases rw_
  exact .inl ⟨x, y, rfl, rfl, tk_same k s (x := .d (.bl _)) (Rep.bl _) q⟩
theorem o2_ltT {ρ : Sto} {Q : QA} {K : PySem.W.Frag} {x y : List Str} (q : Q (.d (.bl (ltS x y))) ρ) : O2 (rLtST K) (.d (tupD x)) (.d (tupD y)) ρ Q := fun H v w s rv rw_ Kk k => .inr (o2_ltTS q H v w s rv rw_ Kk k)
end AB
namespace K82
open PySem PySem.Spec PyProof.Rows L2 Evl HB AB KX
section
variable {P : Program} {w : World} {K : PySem.W.Frag} {mg : Str → Option Value} {base : Heap}
/-! ### ascends -/
abbrev sascends : Stmt := topS 3
theorem scascends : FnScope ["row", "place"] ["row"] (defScope sascends) := ⟨rfl, rfl, rfl, by decide +kernel, rfl, by decide +kernel, by decide +kernel⟩
def ascL {α : Type} (lt : α → α → Bool) : List α → Bool
  | [] => true
  | [_] => true
  | x :: y :: l => lt x y && ascL lt (y :: l)
theorem ascL_iff {α : Type} {lt : α → α → Bool} : ∀ {l : List α}, ascL lt l = true ↔ ∀ (j : Nat) (x y : α), l[j]? = some x → l[j + 1]? = some y → lt x y = true
  | [] => ⟨fun _ j x y e => by simp at e, fun _ => rfl⟩
  | [z] => ⟨fun _ j x y e1 e2 => by simp at e2, fun _ => rfl⟩
  | a :: b :: l => by
    show (lt a b && ascL lt (b :: l)) = true ↔ _
    rw [Bool.and_eq_true, ascL_iff]
    constructor
    · rintro ⟨h1, h2⟩ j x y e1 e2
      cases j with
      | zero =>
        cases Option.some.inj e1
        cases Option.some.inj e2
        exact h1
      | succ j => exact h2 j x y e1 e2
    · intro h
      exact ⟨h 0 a b rfl rfl, fun j x y e1 e2 => h (j + 1) x y e1 e2⟩
/-- a row told by l, its items by e; lt of two items is told by the rule -/
def FAsc (xs : List AB.A) (ρ : Sto) (R : QA) : Prop := ∃ ds, xs = [.d (.tup ds)] ∧ ds.length ≤ 1000000 ∧
  ((∃ l : List Str, ds = l.map D.str ∧ R (.d (.bl (ascL (fun x y : Str => decide (x.cps.toList < y.cps.toList)) l))) ρ) ∨ ∃ l : List (List Str), ds = l.map tupD ∧ R (.d (.bl (ascL ltS l))) ρ)
theorem ok_ascends {f : Addr} {fd : FuncData} (F : Fun K "ascends" "ascends" sascends f fd) (T : Tz mg) : FnOk P w K mg base CX0 1 f fd ["row"] (spA FAsc) := by
  refine F.ok scascends (spA_len fun xs ρ R h => ?_) (fun cdv Ar outer s H vs Q E hr h => ?_)
  · obtain ⟨ds, rfl, _⟩ := h
    rfl
  · have hu1 : _ < cLine := Nat.lt_of_le_of_lt (Nat.le_add_right _ 1) (hu_of hr)
    refine ⟨_, (pss_cons (ps_for PassesOwn.never rfl (pi_range2 (by rfl) T.z_range (pa_cons pe_int (pa_cons (pe_callB call_len_seq (by rfl) T.z_len bt_len (pa_cons (pv 0) pa_nil)) pa_nil))) (pg_name (i := 1) scascends.nd rfl (Or.inl rfl))
  (pss_one (ps_if (pt_not (pt_cmpR (op_ltST hu1) (pe_ix ix_tup (pv 0) (pe_op op_sub (pv 1) pe_int) (fun _ _ => rfl)) (pe_ix ix_tup (pv 0) (pv 1) (fun _ _ => rfl)) (nomark _))) (pss_one (ps_ret pe_bl))
  pss_nil)))
  (pss_one (ps_ret pe_bl))), body_of h fun ρ xs R hF => ?_⟩
    obtain ⟨ds, rfl, hz, hF⟩ := hF
    obtain ⟨X, lt, e, l, rfl, k, hlt⟩ : ∃ (X : Type) (lt : X → X → Bool) (e : X → D) (l : List X), ds = l.map e ∧ R (.d (.bl (ascL lt l))) ρ ∧ ∀ (Kf : PySem.W.Frag) (x y : X) (Q : QA), Q (.d (.bl (lt x y))) ρ → O2 (rLtST Kf) (.d (e x)) (.d (e y)) ρ Q := by
      rcases hF with ⟨l, rfl, k⟩ | ⟨l, rfl, k⟩
      · exact ⟨Str, _, _, l, rfl, k, fun _ _ _ _ q => o2_ltS q⟩
      · exact ⟨List Str, _, _, l, rfl, k, fun _ _ _ _ q => o2_ltT q⟩
    rw [List.length_map] at hz
    have hw : ascL lt l = false ∨ ∀ (j : Nat) (x y : X), l[j]? = some x → l[j + 1]? = some y → lt x y = true := by
      cases q : ascL lt l with
      | false => exact .inl rfl
      | true => exact .inr (ascL_iff.mp q)
    with_reducible repeat (first | refine ws_seq ?_)
    refine ws_for (wi_rng2 ?_)
    repeat (first | refine we_var rfl ?_ | with_reducible refine we_int ?_ | with_reducible refine wa_cons ?_ | with_reducible refine wa_nil ?_ | with_reducible refine we_cb ?_ | with_reducible refine on_lenT ?_)
    refine ⟨_, _, rfl, by rw [List.length_map]; omega, ?_⟩
    refine ⟨fun i γ ρ' => ρ' = ρ ∧ (∃ v, γ = [some (.d (.tup (l.map e))), v]) ∧ ∀ (j : Nat) (x y : X), j < i → l[j]? = some x → l[j + 1]? = some y → lt x y = true, ⟨rfl, ⟨_, rfl⟩, fun j x y h => absurd h (by omega)⟩, fun _ _ _ _ _ => trivial, ?_, ?_⟩
    · rintro i y γ ρ' ey ⟨rfl, ⟨v, rfl⟩, hi⟩
      obtain ⟨hn, rfl⟩ := rgA_at ey
      rw [List.length_map] at hn
      have h1 : i + 1 < l.length := by omega
      have e1 : l[i]? = some l[i] := List.getElem?_eq_getElem (by omega)
      have e2 : l[i + 1]? = some l[i + 1] := List.getElem?_eq_getElem h1
      repeat (first | with_reducible refine ws_if ?_ | with_reducible refine wg_name ?_ | with_reducible refine we_op ?_ | refine we_var rfl ?_ | with_reducible refine we_int ?_ | with_reducible refine wt_test ?_ | with_reducible refine wt_not ?_ | refine o2_I0 (fun _ => Rep.int _) ?_)
      refine o2_ixT (z := e l[i]) (by rw [show (1 : Int) + (i : Nat) - 1 = ((i : Nat) : Int) by omega]; exact atI_nat' (by rw [List.getElem?_map, e1]; rfl)) ?_
      repeat (first | with_reducible refine we_op ?_ | refine we_var rfl ?_)
      refine o2_ixT (z := e l[i + 1]) (by rw [show (1 : Int) + (i : Nat) = ((i + 1 : Nat) : Int) by omega]; exact atI_nat' (by rw [List.getElem?_map, e2]; rfl)) ?_
      refine hlt _ _ _ _ ?_
      repeat (first | refine ⟨_, (rfl : AB.A.d (D.bl _) = _), ?_⟩)
      refine ⟨fun c => ?_, fun c => ?_⟩
      · with_reducible repeat (first | refine ws_ret ?_ | refine we_bl ?_)
        refine ⟨_, AB.Sub.refl _, ?_⟩
        rcases hw with z | z
        · rw [z] at k
          exact k
        · rw [z i _ _ e1 e2] at c
          cases c
      · with_reducible repeat (first | refine ws_next ?_)
        refine ⟨rfl, ⟨_, rfl⟩, fun j x y hj g1 g2 => ?_⟩
        rcases Nat.lt_or_ge j i with q | q
        · exact hi j x y q g1 g2
        · have : j = i := by omega
          subst this
          rw [e1] at g1
          rw [e2] at g2
          cases g1
          cases g2
          simpa using c
    · rintro γ ρ' ⟨rfl, ⟨v, rfl⟩, hi⟩
      with_reducible repeat (first | refine ws_ret ?_ | refine we_bl ?_)
      refine ⟨_, AB.Sub.refl _, ?_⟩
      have z : ascL lt l = true := ascL_iff.mpr fun j x y g1 g2 => hi j x y (by
        rw [rgA_len, List.length_map]
        have := (List.getElem?_eq_some_iff.mp g2).1
        omega) g1 g2
      rw [z] at k
      exact k
end
end K82
set_option Elab.async false
set_option linter.all false
set_option maxRecDepth 100000
set_option maxHeartbeats 4000000
namespace K82
open PySem PySem.Spec PyProof.Rows L2 Evl HB AB KX
def strsOf : List D → Option (List Str)
  | [] => some []
  | .str z :: l => (strsOf l).map (z :: ·)
  | _ :: _ => none
def isTup : D → Bool
  | .tup _ => true
  | _ => false
def isStr : D → Bool
  | .str _ => true
  | _ => false
theorem kb_tup : ∀ t : D, plainD t = true → kitB (tyA t) "tuple" = some (isTup t)
  | .non, _ => by decide +kernel
  | .bl _, _ => by show kitB "bool" "tuple" = some false; decide +kernel
  | .int _, _ => by show kitB "int" "tuple" = some false; decide +kernel
  | .str _, _ => by show kitB "str" "tuple" = some false; decide +kernel
  | .lst _, _ => by show kitB "list" "tuple" = some false; decide +kernel
  | .tup _, _ => by show kitB "tuple" "tuple" = some true; decide +kernel
  | .ty _, h => by cases h
  | .dic _ _, h => by cases h
theorem kb_str : ∀ t : D, plainD t = true → kitB (tyA t) "str" = some (isStr t)
  | .non, _ => by decide +kernel
  | .bl _, _ => by show kitB "bool" "str" = some false; decide +kernel
  | .int _, _ => by show kitB "int" "str" = some false; decide +kernel
  | .str _, _ => by show kitB "str" "str" = some true; decide +kernel
  | .lst _, _ => by show kitB "list" "str" = some false; decide +kernel
  | .tup _, _ => by show kitB "tuple" "str" = some false; decide +kernel
  | .ty _, h => by cases h
  | .dic _ _, h => by cases h
def hasK (ks : List Key) (k : Key) : Bool := ks.any fun q => decide (q = k)
theorem hasK_iff {ks : List Key} {k : Key} : hasK ks k = true ↔ k ∈ ks := by
  unfold hasK
  rw [List.any_eq_true]
  exact ⟨fun ⟨q, m, e⟩ => by rw [← of_decide_eq_true e]; exact m, fun m => ⟨k, m, decide_eq_true rfl⟩⟩
theorem valA_dic {k : Key} : ∀ {ks : List Key} {xs : List AB.A}, ks.length = xs.length → (valA (ks.zip xs) k).isSome = hasK ks k
  | [], [], _ => rfl
  | [], _ :: _, h => by cases h
  | _ :: _, [], h => by cases h
  | q :: ks, x :: xs, h => by
    rw [List.zip_cons_cons]
    by_cases e : q = k
    · rw [valA_pos (by exact e)]
      exact (hasK_iff.mpr (by rw [e]; exact List.mem_cons_self)).symm
    · rw [valA_neg (by exact e), valA_dic (by simpa using h)]
      unfold hasK
      rw [List.any_cons, decide_eq_false e, Bool.false_or]
theorem strsOf_map : ∀ {l : List D} {zs : List Str}, strsOf l = some zs → l = zs.map D.str
  | [], zs, h => by
    cases h
    rfl
  | .str z :: l, zs, h => by
    have h' : (strsOf l).map (z :: ·) = some zs := h
    obtain ⟨ws, e, rfl⟩ := Option.map_eq_some_iff.mp h'
    rw [strsOf_map e]
    rfl
  | .non :: _, _, h => by cases h
  | .bl _ :: _, _, h => by cases h
  | .int _ :: _, _, h => by cases h
  | .ty _ :: _, _, h => by cases h
  | .lst _ :: _, _, h => by cases h
  | .tup _ :: _, _, h => by cases h
  | .dic _ _ :: _, _, h => by cases h
theorem strsOf_of : ∀ {l : List D}, (∀ x ∈ l, isStr x = true) → ∃ zs, strsOf l = some zs
  | [], _ => ⟨[], rfl⟩
  | x :: l, h => by
    obtain ⟨zs, e⟩ := strsOf_of (l := l) fun y hy => h y (List.mem_cons_of_mem _ hy)
    have hx := h x List.mem_cons_self
    cases x with
    | str z =>
      refine ⟨z :: zs, ?_⟩
      show (strsOf l).map (z :: ·) = _
      rw [e]
      rfl
    | _ => cases hx
def ltStr (x y : Str) : Bool := decide (x.cps.toList < y.cps.toList)
structure Txt (K : PySem.W.Frag) (mg : Str → Option Value) extends Tz mg where
  dascends : Fd K mg "ascends" sascends ["row"]
section
variable {P : Program} {w : World} {K : PySem.W.Frag} {mg : Str → Option Value} {base : Heap}
/-! ### are_names -/
abbrev sare_names : Stmt := topS 4
theorem scare_names : FnScope ["thing", "known", "name"] ["thing", "known"] (defScope sare_names) := ⟨rfl, rfl, rfl, by decide +kernel, rfl, by decide +kernel, by decide +kernel⟩
/-- the names of a tuple of known names in sequence -/
def namesOf (ks : List Key) : D → Option (List Str)
  | .tup l => (strsOf l).bind fun zs => if (zs.all (fun z => hasK ks (Sum.inr z)) && ascL ltStr zs) = true then some zs else none
  | _ => none
def FAre (xs : List AB.A) (ρ : Sto) (R : QA) : Prop := ∃ t ks ds, xs = [.d t, .d (.dic ks ds)] ∧ ks.length = ds.length ∧ plainD t = true ∧ (∀ l, t = .tup l → l.length ≤ 1000000 ∧ ∀ x ∈ l, plainD x = true) ∧ R (.d (.bl (namesOf ks t).isSome)) ρ
theorem ok_are {f : Addr} {fd : FuncData} (F : Fun K "are_names" "are_names" sare_names f fd) (T : Txt K mg) : FnOk P w K mg base CX0 2 f fd ["thing", "known"] (spA FAre) := by
  have Gascends : FnOk P w K mg base CX0 1 T.dascends.f T.dascends.fd ["row"] (spA FAsc) := ok_ascends T.dascends.F T.toTz
  refine F.ok scare_names (spA_len fun xs ρ R h => ?_) (fun cdv Ar outer s H vs Q E hr h => ?_)
  · obtain ⟨t, ks, ds, rfl, _⟩ := h
    rfl
  · have hu : _ + 1 < cLine := hu_of hr
    refine ⟨_, (pss_cons (ps_if (pt_not (pt_val (pe_callB call_isA (by rfl) T.z_isinstance bt_isinstance (pa_cons (pv 0) (pa_cons (pe_bltn (by rfl) T.z_tuple (v := .ty "tuple") bt_tuple rfl) pa_nil))))) (pss_one (ps_ret pe_bl))
  pss_nil)
  (pss_cons (ps_for PassesOwn.never rfl (pi_tup (pv 0)) (pg_name (i := 2) scare_names.nd rfl (Or.inl rfl))
  (pss_one (ps_if (PW.pt (pw_or (pt_not (pt_val (pe_callB call_isA (by rfl) T.z_isinstance bt_isinstance (pa_cons (pv 2) (pa_cons (pe_bltn (by rfl) T.z_str (v := .ty "str") bt_str rfl) pa_nil))))) (pw_or1 (pt_cmp (pc_dnotin hu (pv 2) (pv 1)))))) (pss_one (ps_ret pe_bl))
  pss_nil)))
  (pss_one (ps_ret (pe_call Gascends (hr.mono (by first | decide | omega)) rfl T.dascends.g T.dascends.k T.dascends.b .nil pass0 (pa_cons (pv 0) pa_nil)))))), body_of h fun ρ xs R hF => ?_⟩
    obtain ⟨t, ks, ds, rfl, hl, hp, hz, k⟩ := hF
    repeat (first | with_reducible refine ws_seq ?_ | with_reducible refine ws_if ?_ | refine we_var rfl ?_ | with_reducible refine wa_cons ?_ | with_reducible refine wa_nil ?_ | with_reducible refine we_cb ?_ | with_reducible refine wt_B ?_ | with_reducible refine wt_not ?_ | with_reducible refine we_ty ?_)
    refine on_is hp (kb_tup t hp) ?_
    repeat (first | refine ⟨_, (rfl : AB.A.d (D.bl _) = _), ?_⟩)
    refine ⟨fun c => ?_, fun c => ?_⟩
    · -- no tuple
      with_reducible repeat (first | refine ws_ret ?_ | refine we_bl ?_)
      refine ⟨_, AB.Sub.refl _, ?_⟩
      cases t <;> first | exact k | cases c
    · obtain ⟨l, rfl⟩ : ∃ l, t = .tup l := by
        cases t <;> first | exact ⟨_, rfl⟩ | cases c
      obtain ⟨hll, hpl⟩ := hz l rfl
      with_reducible repeat (first | refine ws_seq ?_ | refine ws_next ?_)
      refine ws_for (wi_tup ?_)
      repeat (first | refine we_var rfl ?_)
      refine ⟨l, rfl, ?_⟩
      refine ⟨fun i γ ρ' => ρ' = ρ ∧ (∃ v, γ = [some (.d (.tup l)), some (.d (.dic ks ds)), v]) ∧ ∀ (j : Nat) (x : D), j < i → l[j]? = some x → ∃ z, x = .str z ∧ Sum.inr z ∈ ks, ⟨rfl, ⟨_, rfl⟩, fun j x h => absurd h (by omega)⟩, fun _ _ _ _ _ => trivial, ?_, ?_⟩
      · rintro i y γ ρ' ey ⟨rfl, ⟨v, rfl⟩, hi⟩
        rw [List.getElem?_map] at ey
        obtain ⟨d, ed, rfl⟩ := Option.map_eq_some_iff.mp ey
        have hd : d ∈ l := List.mem_of_getElem? ed
        have hpd := hpl d hd
        repeat (first | with_reducible refine ws_if ?_ | with_reducible refine wg_name ?_ | refine we_var rfl ?_ | with_reducible refine wa_cons ?_ | with_reducible refine wa_nil ?_ | with_reducible refine we_cb ?_ | with_reducible refine wt_B ?_ | with_reducible refine wt_not ?_ | with_reducible refine wt_or ?_ | with_reducible refine we_ty ?_)
        refine on_is hpd (kb_str d hpd) ?_
        have bad : (∀ zs, strsOf l = some zs → (zs.all fun z => hasK ks (Sum.inr z)) = false) → R (.d (.bl false)) ρ' := fun hb => by
          have : (namesOf ks (.tup l)).isSome = false := by
            show ((strsOf l).bind fun zs => if (zs.all (fun z => hasK ks (Sum.inr z)) && ascL ltStr zs) = true then some zs else none).isSome = false
            cases e : strsOf l with
            | none => rfl
            | some zs =>
              show (if (zs.all (fun z => hasK ks (Sum.inr z)) && ascL ltStr zs) = true then some zs else none).isSome = false
              rw [hb zs e]
              rfl
          rw [this] at k
          exact k
        repeat (first | refine ⟨_, (rfl : AB.A.d (D.bl _) = _), ?_⟩)
        refine ⟨fun c1 => ?_, fun c1 => ?_⟩
        · refine ⟨fun _ => ?_, fun z => by cases z⟩
          with_reducible repeat (first | refine ws_ret ?_ | refine we_bl ?_)
          refine ⟨_, AB.Sub.refl _, bad fun zs e => ?_⟩
          have := strsOf_map e
          subst this
          obtain ⟨z, _, rfl⟩ := List.mem_map.mp hd
          cases c1
        · obtain ⟨z, rfl⟩ : ∃ z, d = .str z := by
            cases d <;> first | exact ⟨_, rfl⟩ | cases c1
          repeat (first | refine we_var rfl ?_ | with_reducible refine wt_B ?_ | with_reducible refine we_dnotin ?_)
          refine ⟨_, .inr (.inl ⟨ks, ds, .inr z, rfl, rfl, hl, rfl⟩), ?_⟩
          rw [valA_dic (by rw [List.length_map]; exact hl)]
          repeat (first | refine ⟨_, (rfl : AB.A.d (D.bl _) = _), ?_⟩)
          refine ⟨fun c2 => ?_, fun c2 => ?_⟩
          · with_reducible repeat (first | refine ws_ret ?_ | refine we_bl ?_)
            refine ⟨_, AB.Sub.refl _, bad fun zs e => ?_⟩
            have := strsOf_map e
            subst this
            obtain ⟨z', hz', ez⟩ := List.mem_map.mp hd
            cases ez
            refine Bool.eq_false_iff.mpr fun q => ?_
            have := List.all_eq_true.mp q z hz'
            rw [this] at c2
            cases c2
          · with_reducible repeat (first | refine ws_next ?_)
            refine ⟨rfl, ⟨_, rfl⟩, fun j x hj g1 => ?_⟩
            rcases Nat.lt_or_ge j i with q | q
            · exact hi j x q g1
            · have : j = i := by omega
              subst this
              rw [ed] at g1
              cases g1
              exact ⟨z, rfl, hasK_iff.mp (by simpa using c2)⟩
      · rintro γ ρ' ⟨rfl, ⟨v, rfl⟩, hi⟩
        rw [List.length_map] at hi
        have hall : ∀ x ∈ l, ∃ z, x = .str z ∧ Sum.inr z ∈ ks := fun x hx => by
          obtain ⟨j, hj, e⟩ := List.mem_iff_getElem.mp hx
          exact hi j x hj (by rw [List.getElem?_eq_getElem hj, e])
        obtain ⟨zs, ez⟩ := strsOf_of fun x hx => by
          obtain ⟨z, rfl, _⟩ := hall x hx
          rfl
        have el := strsOf_map ez
        have ha : (zs.all fun z => hasK ks (Sum.inr z)) = true := List.all_eq_true.mpr fun z hz => by
          obtain ⟨z', e, m⟩ := hall (.str z) (by rw [el]; exact List.mem_map.mpr ⟨z, hz, rfl⟩)
          cases e
          exact hasK_iff.mpr m
        repeat (first | with_reducible refine ws_ret ?_ | refine we_var rfl ?_ | with_reducible refine wa_cons ?_ | with_reducible refine wa_nil ?_ | with_reducible refine we_call ?_)
        refine ⟨l, rfl, hll, .inl ⟨zs, el, ⟨_, AB.Sub.refl _, ?_⟩⟩⟩
        have : (namesOf ks (.tup l)).isSome = ascL ltStr zs := by
          show ((strsOf l).bind fun zs => if (zs.all (fun z => hasK ks (Sum.inr z)) && ascL ltStr zs) = true then some zs else none).isSome = _
          rw [ez]
          show (if (zs.all (fun z => hasK ks (Sum.inr z)) && ascL ltStr zs) = true then some zs else none).isSome = _
          rw [ha, Bool.true_and]
          cases ascL ltStr zs <;> rfl
        rw [this] at k
        exact k
end
end K82
set_option Elab.async false
set_option linter.all false
set_option maxRecDepth 100000
set_option maxHeartbeats 4000000
namespace K82
open PySem PySem.Spec PyProof.Rows L2 Evl HB AB KX
section
variable {P : Program} {w : World} {K : PySem.W.Frag} {mg : Str → Option Value} {base : Heap}
/-! ### ordered_names -/
abbrev sordered_names : Stmt := topS 6
theorem scordered_names : FnScope ["names", "ties", "ahead", "links", "one", "other", "_", "walk", "at", "name"] ["names", "ties"] (defScope sordered_names) := ⟨rfl, rfl, rfl, by decide +kernel, rfl, by decide +kernel, by decide +kernel⟩
abbrev Tie := Str × Str × Int
def tieD (t : Tie) : D := .tup [.str t.1, .str t.2.1, .int t.2.2]
/-- names in such a sequence that each tie goes on -/
def Topo (names : List Str) (ties : List Tie) (W : List Str) : Prop := W.Perm names ∧ ∀ t ∈ ties, ∃ i j : Nat, i < j ∧ W[i]? = some t.1 ∧ W[j]? = some t.2.1
def Fits (names : List Str) (ties : List Tie) : Prop := names.Nodup ∧ names.length ≤ 1000 ∧ ties.length ≤ 2000 ∧ (∀ t ∈ ties, t.1 ∈ names ∧ t.2.1 ∈ names) ∧ ∃ rank : Str → Nat, ∀ t ∈ ties, rank t.1 < rank t.2.1
def FOrd (xs : List AB.A) (ρ : Sto) (R : QA) : Prop := ∃ names ties, xs = [.d (.tup (names.map D.str)), .d (.lst (ties.map tieD))] ∧ Fits names ties ∧ ∀ W, Topo names ties W → R (.d (.lst (W.map D.str))) ρ
theorem cnt_congr {ρ : Sto} {a : Addr} {names : List Str} {f g : Str → Int} (h : CntS ρ a names f) (e : ∀ x ∈ names, f x = g x) : CntS ρ a names g := by
  unfold CntS at h ⊢
  rw [h]
  congr 2
  exact List.map_congr_left fun x hx => by rw [e x hx]
theorem link_congr {ρ : Sto} {a : Addr} {names : List Str} {la : Str → Addr} {f g : Str → List D} (h : LinkS ρ a names la f) (e : ∀ x ∈ names, f x = g x) : LinkS ρ a names la g := ⟨h.h, fun n hn => by rw [← e n hn]; exact h.l n hn, h.i⟩
theorem ok_ord {f : Addr} {fd : FuncData} (F : Fun K "ordered_names" "ordered_names" sordered_names f fd) (T : Tz mg) : FnOk P w K mg base CX0 1 f fd ["names", "ties"] (spA FOrd) := by
  refine F.ok scordered_names (spA_len fun xs ρ R h => ?_) (fun cdv Ar outer s H vs Q E hr h => ?_)
  · obtain ⟨names, ties, rfl, _⟩ := h
    rfl
  · have hu : _ + 1 < cLine := hu_of hr
    refine ⟨_, (pss_cons (ps_set (i := 2) scordered_names.nd rfl (Or.inr rfl) (pe_dc (own := [("name", 9)]) rfl scordered_names.nd (pi_tup (pv 0)) (blkOk_by (N := ["names", "ties", "ahead", "links", "one", "other", "_", "walk", "at", "name"]) (sc := defScope sordered_names) (by decide +kernel)) (fun _ _ _ _ _ => (pg_name (i := 9) scordered_names.nd rfl (Or.inl rfl))) (fun _ _ _ _ _ => pts_nil) (fun _ _ _ _ _ => (pv 9)) (fun _ _ _ _ _ => pe_int)))
  (pss_cons (ps_setDc (bs := [("name", 9)]) (j := 3) rfl scordered_names.nd rfl rfl (sw_dict rfl rfl rfl (by decide +kernel)) (pi_tup (pv 0)) (blkOk_by (N := ["names", "ties", "ahead", "links", "one", "other", "_", "walk", "at", "name"]) (sc := defScope sordered_names) (by decide +kernel)) (fun _ _ _ _ _ => (pg_name (i := 9) scordered_names.nd rfl (Or.inl rfl))) (fun _ _ _ _ _ => pts_nil) (fun _ _ _ _ _ => (pv 9)) (fun _ _ _ _ _ => (pe_lst pa_nil)))
  (pss_cons (ps_for PassesOwn.never rfl (pi_list (pv 1)) (pg_tup rfl (pgs_cons (pg_name (i := 4) scordered_names.nd rfl (Or.inl rfl)) (pgs_cons (pg_name (i := 5) scordered_names.nd rfl (Or.inl rfl)) (pgs_cons (pg_name (i := 6) scordered_names.nd rfl (Or.inl rfl)) pgs_nil))))
  (pss_cons (ps_daug hu (pv 2) (pv 5) pe_int in_add (fun _ _ _ => rfl))
  (pss_one (ps_expr (pe_bm PySem.F.plainAttrs_list PySem.F.slot_list_append PySem.F.type_list_append mt_append (pe_dget hu (pv 3) (pv 4) (fun _ _ => rfl)) (pa_cons (pv 5) pa_nil))))))
  (pss_cons (ps_setLc (own := [("name", 9)]) (i := 7) rfl scordered_names.nd rfl rfl (sw_true rfl rfl rfl (by decide +kernel)) (pi_tup (pv 0)) (blkOk_by (N := ["names", "ties", "ahead", "links", "one", "other", "_", "walk", "at", "name"]) (sc := defScope sordered_names) (by decide +kernel)) (fun _ _ _ _ _ => (pg_name (i := 9) scordered_names.nd rfl (Or.inl rfl))) (fun _ _ _ _ _ => (pts_one (pt_cmpR op_eq (pe_dget hu (pv 2) (pv 9) (fun _ _ => rfl)) pe_int (nomark _)))) (fun _ _ _ _ _ => (pv 9)))
  (pss_cons (ps_set (i := 8) scordered_names.nd rfl (Or.inl rfl) pe_int)
  (pss_cons (ps_while PassesOwn.never (pt_cmpR op_lt (pv 8) (pe_callB call_len_seq (by rfl) T.z_len bt_len (pa_cons (pv 7) pa_nil)) (nomark _)) (pss_cons (ps_for PassesOwn.never rfl (pi_list (pe_dget hu (pv 3) (pe_ix ix_list (pv 7) (pv 8) (fun _ _ => rfl)) (fun _ _ => rfl))) (pg_name (i := 5) scordered_names.nd rfl (Or.inl rfl))
  (pss_cons (ps_daug hu (pv 2) (pv 5) pe_int in_sub (fun _ _ _ => rfl))
  (pss_one (ps_if (pt_cmpR op_eq (pe_dget hu (pv 2) (pv 5) (fun _ _ => rfl)) pe_int (nomark _)) (pss_one (ps_expr (pe_bm PySem.F.plainAttrs_list PySem.F.slot_list_append PySem.F.type_list_append mt_append (pv 7) (pa_cons (pv 5) pa_nil))))
  pss_nil))))
  (pss_one (ps_aug (i := 8) scordered_names.nd rfl (Or.inl rfl) pe_int ip_add))))
  (pss_one (ps_ret (pv 7))))))))), body_of h fun ρ xs R hF => ?_⟩
    obtain ⟨names, ties, rfl, hf, k⟩ := hF
    obtain ⟨nd, hnz, htz, hin, rank, hrank⟩ := hf
    -- ahead
    with_reducible repeat (first | refine ws_seq ?_ | refine ws_asg ?_)
    refine we_dcD (wi_tup ?_)
    repeat (first | refine we_var rfl ?_)
    refine ⟨_, rfl, names, fun _ => .int 0, rfl, nd, by omega, fun _ _ => trivial, fun n ρx hn sb => ?_, fun ah hah => ?_⟩
    · refine wgv_name (by decide) ⟨rfl, wt_yes ⟨rfl, rfl, ?_⟩⟩
      repeat (first | refine we_var rfl ?_)
      refine ⟨rfl, rfl, ?_⟩
      with_reducible repeat (first | refine we_int ?_)
      exact ⟨rfl, rfl⟩
    -- links
    with_reducible repeat (first | refine ws_seq ?_ | refine ws_asg ?_ | refine wg_name ?_)
    refine we_dcL (wi_tup ?_)
    repeat (first | refine we_var rfl ?_)
    refine ⟨_, rfl, names, rfl, nd, by omega, fun _ _ => trivial, fun n ρx hn sb => ?_, fun li ρ2 la hli sb hla LK => ?_⟩
    · refine wgv_name (by decide) ⟨rfl, wt_yes ⟨rfl, rfl, ?_⟩⟩
      repeat (first | refine we_var rfl ?_)
      refine ⟨rfl, rfl, ?_⟩
      exact we_lstM (wa_nil ⟨by decide, fun a ha => ⟨a, ha, rfl, rfl⟩⟩)
    have sb0 : AB.Sub ρ ρ2 := ((AB.Sub.refl ρ).new hah).trans sb
    have hah2 : ρ2 ah = some (.dK (names.map fun n => ((Sum.inr n : Key), AB.A.d (.int 0)))) := sb ah _ pu_same
    have no : ∀ {a : Addr}, pu ρ ah (.dK (names.map fun n => ((Sum.inr n : Key), AB.A.d (.int 0)))) a = none → ρ a = none ∧ a ≠ ah := fun {a} h => by
      have hne : a ≠ ah := fun z => by rw [z, pu_same] at h; cases h
      rw [pu_ne hne] at h
      exact ⟨h, hne⟩
    have nli := no hli
    have nla := fun n hn => no (hla n hn)
    -- the ties
    with_reducible repeat (first | refine ws_seq ?_ | refine wg_name ?_)
    refine ws_for (wi_list ?_)
    repeat (first | refine we_var rfl ?_)
    refine ⟨_, lsd, fun i γ ρ' => (∃ v4 v5 v6, γ = [some (.d (.tup (names.map D.str))), some (.d (.lst (ties.map tieD))), some (.m ah), some (.m li), v4, v5, v6, none, none, none]) ∧
      CntS ρ' ah names (fun x => (KN.inc ((ties.take i).map fun t => (t.1, t.2.1)) [] x : Int)) ∧ LinkS ρ' li names la (fun n => (KN.outs ((ties.take i).map fun t => (t.1, t.2.1)) n).map D.str) ∧ AB.Sub ρ ρ', ?_, fun _ _ _ _ _ => lsd, ?_, ?_⟩
    · exact ⟨⟨_, _, _, rfl⟩, hah2, LK, sb0⟩
    · rintro i y γ ρ' ey ⟨⟨v4, v5, v6, rfl⟩, hc, hl, hs⟩
      rw [List.getElem?_map, List.getElem?_map] at ey
      obtain ⟨d, ed, rfl⟩ := Option.map_eq_some_iff.mp ey
      obtain ⟨t, et, rfl⟩ := Option.map_eq_some_iff.mp ed
      obtain ⟨h1, h2⟩ := hin t (List.mem_of_getElem? et)
      refine wg_tup rfl ?_
      refine wgs_cons (wg_name (wgs_cons (wg_name (wgs_cons (wg_name (wgs_nil ?_))))))
      with_reducible repeat (first | refine ws_seq ?_)
      refine ws_daug ?_
      repeat (first | refine we_var rfl ?_)
      refine ⟨_, cnt_get hc h2, ?_⟩
      repeat (first | with_reducible refine we_int ?_ | refine o2_I0 (fun _ => Rep.int _) ?_)
      refine ⟨_, cnt_put hc (by omega) h2 _, ?_⟩
      have hl' := hl.pu (o := .dK (names.map fun m => ((Sum.inr m : Key), AB.A.d (.int (if m = t.2.1 then (KN.inc ((ties.take i).map fun t => (t.1, t.2.1)) [] t.2.1 : Int) + 1 else (KN.inc ((ties.take i).map fun t => (t.1, t.2.1)) [] m : Int)))))) (Ne.symm nli.2) (fun n hn => (nla n hn).2)
      with_reducible repeat (first | refine ws_drop ?_)
      refine we_bm (we_dget ?_)
      repeat (first | refine we_var rfl ?_)
      refine ⟨_, link_get hl' h1, ty_lst (hl'.l _ h1), ?_⟩
      repeat (first | refine we_var rfl ?_ | with_reducible refine wa_cons ?_ | with_reducible refine wa_nil ?_)
      refine on_append (hl'.l _ h1) (by
        rw [List.length_map, List.length_map]
        have := List.length_filter_le (fun u : Str × Str => decide (u.1 = t.1)) ((ties.take i).map fun t => (t.1, t.2.1))
        unfold KN.outs
        rw [List.length_map]
        rw [List.length_map, List.length_take] at this
        omega) ?_
      have et' : (ties.take (i + 1)).map (fun t => (t.1, t.2.1)) = (ties.take i).map (fun t => (t.1, t.2.1)) ++ [(t.1, t.2.1)] := by
        rw [List.take_succ, et, List.map_append]
        rfl
      refine ⟨⟨_, _, _, rfl⟩, ?_, ?_, ?_⟩
      · refine cnt_congr (f := fun m => if m = t.2.1 then (KN.inc ((ties.take i).map fun t => (t.1, t.2.1)) [] t.2.1 : Int) + 1 else (KN.inc ((ties.take i).map fun t => (t.1, t.2.1)) [] m : Int)) ?_ fun x hx => ?_
        · unfold CntS
          rw [pu_ne (Ne.symm (nla _ h1).2), pu_same]
        · rw [et', KN.inc_app]
          by_cases e : x = t.2.1
          · rw [if_pos e, if_pos ⟨e.symm, by simp⟩, e]
            rfl
          · rw [if_neg e, if_neg (fun z => e z.1.symm)]
            rfl
      · refine link_congr (hl'.app h1 (.str t.2.1)) fun x hx => ?_
        rw [et', KN.outs_app]
        by_cases e : x = t.1
        · rw [if_pos e, if_pos e.symm, List.map_append, e]
          rfl
        · rw [if_neg e, if_neg (fun z => e z.symm), List.append_nil]
      · exact (hs.new hah).new (nla _ h1).1
    · rintro γ ρ3 ⟨⟨v4, v5, v6, rfl⟩, hc, hl, hs⟩
      rw [List.length_map, List.length_map, List.take_length] at hc hl
      generalize htp : (ties.map fun t => (t.1, t.2.1)) = tp at hc hl
      -- walk
      with_reducible repeat (first | refine ws_seq ?_ | refine ws_asg ?_)
      refine we_lcM (wi_tup ?_)
      repeat (first | refine we_var rfl ?_)
      refine ⟨_, rfl, fun i => (names[i]?).bind fun n => if decide (KN.inc tp [] n = 0) = true then some (.str n) else none, fun _ _ => trivial, by rw [List.length_map, List.length_map]; omega, fun i y ρx ey sb => ?_, fun wa hwa => ?_⟩
      · rw [List.getElem?_map, List.getElem?_map] at ey
        obtain ⟨d, ed, rfl⟩ := Option.map_eq_some_iff.mp ey
        obtain ⟨n, en, rfl⟩ := Option.map_eq_some_iff.mp ed
        have hn := List.mem_of_getElem? en
        refine wgv_name (by decide) ⟨rfl, ?_⟩
        with_reducible repeat (first | refine we_op ?_ | refine wt_test ?_)
        refine we_dget ?_
        repeat (first | refine we_var rfl ?_)
        refine ⟨_, cnt_get (sb ah _ hc) hn, ?_⟩
        repeat (first | with_reducible refine we_int ?_ | refine ⟨_, (rfl : AB.A.d (D.bl _) = _), ?_⟩ | with_reducible refine o2_eqI ?_)
        refine ⟨rfl, fun c => ?_, fun c => ?_⟩
        · repeat (first | refine we_var rfl ?_)
          refine ⟨rfl, _, rfl, ?_⟩
          show (names[i]?).bind (fun n => if decide (KN.inc tp [] n = 0) = true then some (D.str n) else none) = _
          rw [en]
          have := of_decide_eq_true c
          show (if decide (KN.inc tp [] n = 0) = true then some (D.str n) else none) = _
          rw [if_pos (by simpa using this)]
        · show (names[i]?).bind (fun n => if decide (KN.inc tp [] n = 0) = true then some (D.str n) else none) = _
          rw [en]
          have := of_decide_eq_false c
          show (if decide (KN.inc tp [] n = 0) = true then some (D.str n) else none) = _
          rw [if_neg (by simpa using this)]
      have hW0 : (List.range ((names.map D.str).map AB.A.d).length).filterMap (fun i => (names[i]?).bind fun n => if decide (KN.inc tp [] n = 0) = true then some (D.str n) else none) = (names.filter fun n => decide (KN.inc tp [] n = 0)).map D.str := by
        rw [List.length_map, List.length_map, KN.range_fm names _ _ (Nat.le_refl _), List.take_length]
        exact KN.fm_filter _ _ _
      rw [hW0]
      have nwa : ρ wa = none := by
        cases e : ρ wa with
        | none => rfl
        | some o =>
          rw [hs wa o e] at hwa
          cases hwa
      have wah : wa ≠ ah := fun z => by rw [z, hc] at hwa; cases hwa
      have wli : wa ≠ li := fun z => by rw [z, hl.h] at hwa; cases hwa
      have wla : ∀ n, n ∈ names → la n ≠ wa := fun n hn z => by
        have := hl.l n hn
        rw [z, hwa] at this
        cases this
      have htn : ∀ t ∈ tp, t.1 ∈ names ∧ t.2 ∈ names := fun t ht => by
        rw [← htp] at ht
        obtain ⟨u, hu, rfl⟩ := List.mem_map.mp ht
        exact hin u hu
      with_reducible repeat (first | refine ws_seq ?_ | refine ws_asg ?_ | refine wg_name ?_ | refine we_int ?_)
      refine ws_while (fun m γ ρ' => ∃ (p : Nat) (W : List Str) (cnt : Str → Int) (v4 v5 v6 : Option AB.A), γ = [some (.d (.tup (names.map D.str))), some (.d (.lst (ties.map tieD))), some (.m ah), some (.m li), v4, v5, v6, some (.m wa), some (.d (.int (p : Nat))), none] ∧
        ρ' wa = some (.lst ((W.map D.str).map .d)) ∧ CntS ρ' ah names cnt ∧ LinkS ρ' li names la (fun n => (KN.outs tp n).map D.str) ∧ AB.Sub ρ ρ' ∧ KN.In names tp (W.take p) W [] cnt ∧ p ≤ W.length ∧ m + p = names.length) names.length ?_ ?_
      · refine ⟨0, _, _, v4, v5, v6, rfl, pu_same, ?_, hl.pu wli (fun n hn => wla n hn), hs.new nwa, KN.In.start (nd.filter _) fun x => ?_, Nat.zero_le _, rfl⟩
        · unfold CntS
          rw [pu_ne (Ne.symm wah)]
          exact hc
        · rw [List.mem_filter]
          simp
      · rintro m γ ρ4 ⟨p, W, cnt, v4, v5, v6, rfl, hw, hc, hl, hs, hI, hp, hm⟩
        have hWn := KN.nodup_len hI.nd hI.sub
        repeat (first | with_reducible refine we_op ?_ | refine we_var rfl ?_ | with_reducible refine wa_cons ?_ | with_reducible refine wa_nil ?_ | with_reducible refine we_cb ?_ | with_reducible refine wt_test ?_)
        refine on_len (lsm hw) ?_
        repeat (first | refine ⟨_, (rfl : AB.A.d (D.bl _) = _), ?_⟩ | refine o2_I0 (fun _ => Rep.bl _) ?_)
        rw [List.length_map, List.length_map]
        refine ⟨fun c => ?_, fun c => ?_⟩
        · have c' : p < W.length := by
            have := of_decide_eq_true c
            omega
          obtain ⟨u, eu⟩ : ∃ u, W[p]? = some u := ⟨W[p], List.getElem?_eq_getElem c'⟩
          have hu2 : u ∈ names := hI.sub u (List.mem_of_getElem? eu)
          have hI' := hI.next (u := u) (by rw [List.length_take, Nat.min_eq_left hp]; exact eu)
          with_reducible repeat (first | refine ws_seq ?_)
          refine ws_for (wi_list (we_dget ?_))
          repeat (first | with_reducible refine we_op ?_ | refine we_var rfl ?_)
          refine o2_ixL (lsm hw) (z := .d (.str u)) (atI_nat' (by rw [List.getElem?_map, List.getElem?_map, eu]; rfl)) ?_
          refine ⟨_, link_get hl hu2, ?_⟩
          refine ⟨_, lsm (hl.l u hu2), fun k γ ρ' => ∃ (W' : List Str) (cnt' : Str → Int) (v5 : Option AB.A), γ = [some (.d (.tup (names.map D.str))), some (.d (.lst (ties.map tieD))), some (.m ah), some (.m li), v4, v5, v6, some (.m wa), some (.d (.int (p : Nat))), none] ∧
            ρ' wa = some (.lst ((W'.map D.str).map .d)) ∧ CntS ρ' ah names cnt' ∧ LinkS ρ' li names la (fun n => (KN.outs tp n).map D.str) ∧ AB.Sub ρ ρ' ∧ KN.In names tp (W.take p ++ [u]) W' ((KN.outs tp u).drop k) cnt', ?_, ?_, ?_, ?_⟩
          · exact ⟨W, cnt, v5, rfl, hw, hc, hl, hs, by rw [List.drop_zero]; exact hI'⟩
          · rintro k γ ρ' _ ⟨W', cnt', v5, rfl, _, _, hl', _⟩
            exact lsm (hl'.l u hu2)
          · rintro k y γ ρ' ey ⟨W', cnt', v5, rfl, hw', hc', hl', hs', hI'⟩
            rw [List.getElem?_map, List.getElem?_map] at ey
            obtain ⟨d, ed, rfl⟩ := Option.map_eq_some_iff.mp ey
            obtain ⟨o, eo, rfl⟩ := Option.map_eq_some_iff.mp ed
            have ho : o ∈ names := by
              have := List.mem_of_getElem? eo
              unfold KN.outs at this
              obtain ⟨t, ht, rfl⟩ := List.mem_map.mp this
              exact (htn t (List.mem_filter.mp ht).1).2
            have hdrop : (KN.outs tp u).drop k = o :: (KN.outs tp u).drop (k + 1) := by
              obtain ⟨hk, e⟩ := List.getElem?_eq_some_iff.mp eo
              rw [List.drop_eq_getElem_cons hk, e]
            rw [hdrop] at hI'
            have hW' := KN.nodup_len hI'.nd hI'.sub
            obtain ⟨s1, s2⟩ := hI'.step (cnt' := fun x => if x = o then cnt' o - 1 else cnt' x) ho fun x => rfl
            with_reducible repeat (first | refine ws_seq ?_ | refine wg_name ?_)
            refine ws_daug ?_
            repeat (first | refine we_var rfl ?_)
            refine ⟨_, cnt_get hc' ho, ?_⟩
            repeat (first | with_reducible refine we_int ?_ | refine o2_I0 (fun _ => Rep.int _) ?_)
            refine ⟨_, cnt_put hc' (by omega) ho _, ?_⟩
            have hc2 : CntS (pu ρ' ah (.dK (names.map fun m => ((Sum.inr m : Key), AB.A.d (.int (if m = o then cnt' o - 1 else cnt' m)))))) ah names (fun x => if x = o then cnt' o - 1 else cnt' x) := pu_same
            have hl2 := hl'.pu (o := .dK (names.map fun m => ((Sum.inr m : Key), AB.A.d (.int (if m = o then cnt' o - 1 else cnt' m))))) (Ne.symm nli.2) (fun n hn => (nla n hn).2)
            have hs2 := hs'.new (o := .dK (names.map fun m => ((Sum.inr m : Key), AB.A.d (.int (if m = o then cnt' o - 1 else cnt' m))))) hah
            have hw2 : (pu ρ' ah (.dK (names.map fun m => ((Sum.inr m : Key), AB.A.d (.int (if m = o then cnt' o - 1 else cnt' m)))))) wa = some (.lst ((W'.map D.str).map .d)) := by
              rw [pu_ne wah]
              exact hw'
            with_reducible repeat (first | refine ws_if ?_ | refine we_op ?_ | refine wt_test ?_)
            refine we_dget ?_
            repeat (first | refine we_var rfl ?_)
            refine ⟨_, cnt_get hc2 ho, ?_⟩
            rw [if_pos rfl] at *
            repeat (first | with_reducible refine we_int ?_ | refine ⟨_, (rfl : AB.A.d (D.bl _) = _), ?_⟩ | with_reducible refine o2_eqI ?_)
            refine ⟨fun c2 => ?_, fun c2 => ?_⟩
            · have z : cnt' o - 1 = 0 := of_decide_eq_true c2
              with_reducible repeat (first | refine ws_drop ?_)
              refine we_bm ?_
              repeat (first | refine we_var rfl ?_)
              refine ⟨ty_lst hw2, ?_⟩
              repeat (first | refine we_var rfl ?_ | with_reducible refine wa_cons ?_ | with_reducible refine wa_nil ?_)
              refine on_append hw2 (by rw [List.length_map, List.length_map]; omega) ?_
              refine ⟨W' ++ [o], _, _, rfl, ?_, ?_, hl2.pu wli (fun n hn => wla n hn), hs2.new nwa, s2 z⟩
              · rw [pu_same, List.map_append, List.map_append]
                rfl
              · unfold CntS
                rw [pu_ne (Ne.symm wah)]
                exact hc2
            · have z : cnt' o - 1 ≠ 0 := of_decide_eq_false c2
              with_reducible repeat (first | refine ws_next ?_)
              exact ⟨W', _, _, rfl, hw2, hc2, hl2, hs2, s1 z⟩
          · rintro γ ρ' ⟨W', cnt', v5, rfl, hw', hc', hl', hs', hI'⟩
            rw [List.length_map, List.length_map, List.drop_length] at hI'
            have htk : W'.take (p + 1) = W.take p ++ [u] := by
              obtain ⟨E, hE⟩ := hI'.pre
              rw [hE, List.take_left']
              rw [List.length_append, List.length_take, Nat.min_eq_left hp]
              rfl
            have hlen : p + 1 ≤ W'.length := by
              obtain ⟨E, hE⟩ := hI'.pre
              rw [hE, List.length_append, List.length_append, List.length_take, Nat.min_eq_left hp]
              simp
            have hW' := KN.nodup_len hI'.nd hI'.sub
            refine ws_aug rfl ?_
            repeat (first | with_reducible refine we_int ?_ | refine ⟨_, (rfl : AB.A.d (D.int _) = _), ?_⟩)
            refine ⟨m - 1, by omega, p + 1, W', cnt', _, _, _, rfl, hw', hc', hl', hs', by rw [htk]; exact hI', hlen, by omega⟩
        · have c' : ¬ p < W.length := by
            have := of_decide_eq_false c
            omega
          have hpW : p = W.length := by omega
          rw [hpW, List.take_length] at hI
          have hall := hI.all (rank := rank) (fun t ht => by
            rw [← htp] at ht
            obtain ⟨u, hu, rfl⟩ := List.mem_map.mp ht
            exact hrank u hu) fun t ht => (htn t ht).1
          have topo : Topo names ties W := by
            refine ⟨(List.perm_ext_iff_of_nodup hI.nd nd).mpr fun x => ⟨hI.sub x, hall x⟩, fun t ht => ?_⟩
            have htp' : (t.1, t.2.1) ∈ tp := by
              rw [← htp]
              exact List.mem_map.mpr ⟨t, ht, rfl⟩
            obtain ⟨j, hj, e⟩ := List.mem_iff_getElem.mp (hall t.2.1 (hin t ht).2)
            have ej : W[j]? = some t.2.1 := by rw [List.getElem?_eq_getElem hj, e]
            obtain ⟨i, hij, ei⟩ := hI.top _ htp' j ej
            exact ⟨i, j, hij, ei, ej⟩
          refine ws_ret (WE.frzL ?_)
          repeat (first | refine we_var rfl ?_)
          exact .inr ⟨wa, W.map D.str, ρ, rfl, hw, hs, nwa, ρ, AB.Sub.refl _, k W topo⟩
end
end K82
set_option Elab.async false
set_option linter.all false
set_option maxRecDepth 100000
set_option maxHeartbeats 4000000
namespace K82
open PySem PySem.Spec PyProof.Rows L2 Evl HB AB KX
structure Txt1 (K : PySem.W.Frag) (mg : Str → Option Value) extends Txt K mg where
  dordered_names : Fd K mg "ordered_names" sordered_names ["names", "ties"]
section
variable {P : Program} {w : World} {K : PySem.W.Frag} {mg : Str → Option Value} {base : Heap}
/-! ### lag_table -/
abbrev slag_table : Stmt := topS 7
theorem sclag_table : FnScope ["names", "ties", "name", "links", "one", "other", "gap", "table", "lags", "far", "lag"] ["names", "ties"] (defScope slag_table) := ⟨rfl, rfl, rfl, by decide +kernel, rfl, by decide +kernel, by decide +kernel⟩
/-! paths along ties, what they add up to -/
inductive Path (ties : List Tie) : Str → Str → Int → Prop
  | one {a b : Str} {g : Int} (h : (a, b, g) ∈ ties) : Path ties a b g
  | more {a c b : Str} {g u : Int} (h : (a, c, g) ∈ ties) (p : Path ties c b u) : Path ties a b (g + u)
theorem Path.nonneg {ties : List Tie} (hg : ∀ t ∈ ties, 0 ≤ t.2.2) {a b : Str} {u : Int} (p : Path ties a b u) : 0 ≤ u := by
  induction p with
  | one h => exact hg _ h
  | more h _ ih => exact Int.add_nonneg (hg _ h) ih
theorem Path.mem {ties : List Tie} {names : List Str} (hin : ∀ t ∈ ties, t.1 ∈ names ∧ t.2.1 ∈ names) {a b : Str} {u : Int} (p : Path ties a b u) : b ∈ names := by
  induction p with
  | one h => exact (hin _ h).2
  | more _ _ ih => exact ih
theorem _root_.AB.RowOk.widen {row : List (Str × Int)} {S S' : Str → Int → Prop} (h : RowOk row S) (sub : ∀ x u, S x u → S' x u) (dom : ∀ x u, S' x u → ∃ v, S x v ∧ u ≤ v) : RowOk row S' :=
  ⟨h.nd, fun p hp => ⟨sub _ _ (h.mx p hp).1, fun u hu => by
    obtain ⟨v, hv, le⟩ := dom _ u hu
    exact Int.le_trans le ((h.mx p hp).2 v hv)⟩, fun x u hu => by
    obtain ⟨v, hv, _⟩ := dom x u hu
    exact h.all x v hv⟩
/-- the rows of a table -/
def tabK (rows : List (Str × List (Str × Int))) : List (Key × AB.A) := rows.map fun p => ((Sum.inr p.1 : Key), AB.A.d (rowD p.2))
def tabD (rows : List (Str × List (Str × Int))) : D := .dic (rows.map fun p => (Sum.inr p.1 : Key)) (rows.map fun p => rowD p.2)
theorem tabK_zip : ∀ rows : List (Str × List (Str × Int)), tabK rows = (rows.map fun p => (Sum.inr p.1 : Key)).zip ((rows.map fun p => rowD p.2).map AB.A.d)
  | [] => rfl
  | p :: rows => by
    show ((Sum.inr p.1 : Key), AB.A.d (rowD p.2)) :: tabK rows = _
    rw [tabK_zip rows]
    rfl
theorem tabK_val (x : Str) : ∀ rows : List (Str × List (Str × Int)), valA (tabK rows) (Sum.inr x : Key) = (valA rows x).map fun r => AB.A.d (rowD r)
  | [] => rfl
  | p :: rows => by
    show valA (((Sum.inr p.1 : Key), AB.A.d (rowD p.2)) :: tabK rows) (Sum.inr x : Key) = _
    by_cases e : p.1 = x
    · rw [valA_pos (by rw [e]), valA_pos e]
      rfl
    · rw [valA_neg (fun z => e (Sum.inr.inj z)), valA_neg e]
      exact tabK_val x rows
theorem tabK_put {rows : List (Str × List (Str × Int))} {x : Str} (nx : x ∉ rows.map Prod.fst) (r : List (Str × Int)) : putA (tabK rows) (Sum.inr x : Key) (AB.A.d (rowD r)) = tabK (rows ++ [(x, r)]) := by
  unfold putA tabK
  have ha : ¬ ((rows.map fun p => ((Sum.inr p.1 : Key), AB.A.d (rowD p.2))).any fun kv => decide (kv.1 = Sum.inr x)) = true := by
    rw [List.any_map, List.any_eq_true]
    rintro ⟨p, hp, z⟩
    exact nx (List.mem_map.mpr ⟨p, hp, Sum.inr.inj (of_decide_eq_true z)⟩)
  rw [if_neg ha, List.map_append]
  rfl
structure TabOk (names : List Str) (ties : List Tie) (rows : List (Str × List (Str × Int))) : Prop where
  perm : (rows.map Prod.fst).Perm names
  row : ∀ p, p ∈ rows → RowOk p.2 (Path ties p.1)
def FLag (xs : List AB.A) (ρ : Sto) (R : QA) : Prop := ∃ names ties, xs = [.d (.tup (names.map D.str)), .d (.lst (ties.map tieD))] ∧ Fits names ties ∧ (∀ t ∈ ties, 0 ≤ t.2.2) ∧ ∀ rows, TabOk names ties rows → R (.d (tabD rows)) ρ
def outT (ties : List Tie) (n : Str) : List Tie := ties.filter fun t => decide (t.1 = n)
def linkD (t : Tie) : D := .tup [.str t.2.1, .int t.2.2]
theorem _root_.AB.LinkS.rm {ρ : Sto} {a b : Addr} {names : List Str} {la : Str → Addr} {Ls : Str → List D} (L : LinkS ρ a names la Ls) (h : b ≠ a) (k : ∀ n, n ∈ names → la n ≠ b) : LinkS (rmS ρ b) a names la Ls :=
  ⟨by rw [rm_ne (Ne.symm h)]; exact L.h, fun n hn => by rw [rm_ne (k n hn)]; exact L.l n hn, L.i⟩
theorem sub_rm {ρ ρ' : Sto} {b : Addr} (s : AB.Sub ρ ρ') (n : ρ b = none) : AB.Sub ρ (rmS ρ' b) := fun a o e => by
  rw [rm_ne (fun z => by rw [z, n] at e; cases e)]
  exact s a o e
theorem items_row : ∀ r : List (Str × Int), ((r.map fun p => (Sum.inr p.1 : Key)).zip (r.map fun p => D.int p.2)).map (fun p => AB.A.d (.ptup [keyD p.1, p.2])) = r.map fun p => AB.A.d (.ptup [.str p.1, .int p.2])
  | [] => rfl
  | p :: r => by
    exact congrArg (fun l => AB.A.d (.ptup [.str p.1, .int p.2]) :: l) (items_row r)
theorem getD_row (o : Option Int) : (o.map fun v => AB.A.d (.int v)).getD (.d (.int 0)) = .d (.int (o.getD 0)) := by cases o <;> rfl
theorem ok_lag {f : Addr} {fd : FuncData} (F : Fun K "lag_table" "lag_table" slag_table f fd) (T : Txt1 K mg) : FnOk P w K mg base CX0 2 f fd ["names", "ties"] (spA FLag) := by
  have Gordered_names : FnOk P w K mg base CX0 1 T.dordered_names.f T.dordered_names.fd ["names", "ties"] (spA FOrd) := ok_ord T.dordered_names.F T.toTz
  refine F.ok sclag_table (spA_len fun xs ρ R h => ?_) (fun cdv Ar outer s H vs Q E hr h => ?_)
  · obtain ⟨names, ties, rfl, _⟩ := h
    rfl
  · have hu : _ + 1 < cLine := hu_of hr
    refine ⟨_, (pss_cons (ps_setDc (bs := [("name", 2)]) (j := 3) rfl sclag_table.nd rfl rfl (sw_dict rfl rfl rfl (by decide +kernel)) (pi_tup (pv 0)) (blkOk_by (N := ["names", "ties", "name", "links", "one", "other", "gap", "table", "lags", "far", "lag"]) (sc := defScope slag_table) (by decide +kernel)) (fun _ _ _ _ _ => (pg_name (i := 2) sclag_table.nd rfl (Or.inl rfl))) (fun _ _ _ _ _ => pts_nil) (fun _ _ _ _ _ => (pv 2)) (fun _ _ _ _ _ => (pe_lst pa_nil)))
  (pss_cons (ps_for PassesOwn.never rfl (pi_list (pv 1)) (pg_tup rfl (pgs_cons (pg_name (i := 4) sclag_table.nd rfl (Or.inl rfl)) (pgs_cons (pg_name (i := 5) sclag_table.nd rfl (Or.inl rfl)) (pgs_cons (pg_name (i := 6) sclag_table.nd rfl (Or.inl rfl)) pgs_nil))))
  (pss_one (ps_expr (pe_bm PySem.F.plainAttrs_list PySem.F.slot_list_append PySem.F.type_list_append mt_append (pe_dget hu (pv 3) (pv 4) (fun _ _ => rfl)) (pa_cons (pe_tupZ (pa_cons (pv 5) (pa_cons (pv 6) pa_nil))) pa_nil)))))
  (pss_cons (ps_set (i := 7) sclag_table.nd rfl (Or.inl rfl) pe_dnewK)
  (pss_cons (ps_for PassesOwn.never rfl (pi_reversed (by rfl) T.z_reversed (pa_cons (pe_call Gordered_names (hr.mono (by first | decide | omega)) rfl T.dordered_names.g T.dordered_names.k T.dordered_names.b .nil pass0 (pa_cons (pv 0) (pa_cons (pv 1) pa_nil))) pa_nil)) (pg_name (i := 2) sclag_table.nd rfl (Or.inl rfl))
  (pss_cons (ps_set (i := 8) sclag_table.nd rfl (Or.inl rfl) pe_dnewK)
  (pss_cons (ps_for PassesOwn.never rfl (pi_list (pe_dget hu (pv 3) (pv 2) (fun _ _ => rfl))) (pg_tup rfl (pgs_cons (pg_name (i := 5) sclag_table.nd rfl (Or.inl rfl)) (pgs_cons (pg_name (i := 6) sclag_table.nd rfl (Or.inl rfl)) pgs_nil)))
  (pss_cons (ps_dput hu (pv 8) (pv 5) (pe_callB (call_max2 rfl) (by rfl) T.z_max bt_max (pa_cons (pv 6) (pa_cons (pe_dget2 hu (pv 8) (pv 5) pe_int ⟨rfl, rfl, rfl, rfl⟩) pa_nil))) rfl)
  (pss_one (ps_for PassesOwn.never rfl (pi_items (pe_dget hu (pv 7) (pv 5) (fun _ _ => rfl))) (pg_tup rfl (pgs_cons (pg_name (i := 9) sclag_table.nd rfl (Or.inl rfl)) (pgs_cons (pg_name (i := 10) sclag_table.nd rfl (Or.inl rfl)) pgs_nil)))
  (pss_one (ps_dput hu (pv 8) (pv 9) (pe_callB (call_max2 rfl) (by rfl) T.z_max bt_max (pa_cons (pe_op op_add (pv 6) (pv 10)) (pa_cons (pe_dget2 hu (pv 8) (pv 9) pe_int ⟨rfl, rfl, rfl, rfl⟩) pa_nil))) rfl))))))
  (pss_one (ps_frz (ps_dput hu (pv 7) (pv 2) (pv 8) rfl))))))
  (pss_one (ps_frz (ps_ret (pv 7)))))))), body_of h fun ρ xs R hF => ?_⟩
    obtain ⟨names, ties, rfl, hf, hg, k⟩ := hF
    obtain ⟨nd, hnz, htz, hin, rank, hrank⟩ := id hf
    -- links
    with_reducible repeat (first | refine ws_seq ?_ | refine ws_asg ?_)
    refine we_dcL (wi_tup ?_)
    repeat (first | refine we_var rfl ?_)
    refine ⟨_, rfl, names, rfl, nd, by omega, fun _ _ => trivial, fun n ρx hn sb => ?_, fun li ρ2 la hli sb hla LK => ?_⟩
    · refine wgv_name (by decide) ⟨rfl, wt_yes ⟨rfl, rfl, ?_⟩⟩
      repeat (first | refine we_var rfl ?_)
      refine ⟨rfl, rfl, ?_⟩
      exact we_lstM (wa_nil ⟨by decide, fun a ha => ⟨a, ha, rfl, rfl⟩⟩)
    with_reducible repeat (first | refine ws_seq ?_ | refine wg_name ?_)
    refine ws_for (wi_list ?_)
    repeat (first | refine we_var rfl ?_)
    refine ⟨_, lsd, fun i γ ρ' => (∃ v4 v5 v6, γ = [some (.d (.tup (names.map D.str))), some (.d (.lst (ties.map tieD))), none, some (.m li), v4, v5, v6, none, none, none, none]) ∧
      LinkS ρ' li names la (fun n => (outT (ties.take i) n).map linkD) ∧ AB.Sub ρ ρ', ?_, fun _ _ _ _ _ => lsd, ?_, ?_⟩
    · exact ⟨⟨_, _, _, rfl⟩, LK, sb⟩
    · rintro i y γ ρ' ey ⟨⟨v4, v5, v6, rfl⟩, hl, hs⟩
      rw [List.getElem?_map, List.getElem?_map] at ey
      obtain ⟨d, ed, rfl⟩ := Option.map_eq_some_iff.mp ey
      obtain ⟨t, et, rfl⟩ := Option.map_eq_some_iff.mp ed
      obtain ⟨h1, h2⟩ := hin t (List.mem_of_getElem? et)
      refine wg_tup rfl ?_
      refine wgs_cons (wg_name (wgs_cons (wg_name (wgs_cons (wg_name (wgs_nil ?_))))))
      with_reducible repeat (first | refine ws_drop ?_)
      refine we_bm (we_dget ?_)
      repeat (first | refine we_var rfl ?_)
      refine ⟨_, link_get hl h1, ty_lst (hl.l _ h1), ?_⟩
      refine wa_cons (we_tup ?_)
      repeat (first | refine we_var rfl ?_ | with_reducible refine wa_cons ?_ | with_reducible refine wa_nil ?_)
      refine ⟨[.str t.2.1, .int t.2.2], rfl, (by show 2 ≤ 100000; decide), ?_⟩
      with_reducible repeat (first | refine wa_nil ?_)
      refine on_append (hl.l _ h1) (by
        rw [List.length_map, List.length_map]
        have := List.length_filter_le (fun u : Tie => decide (u.1 = t.1)) (ties.take i)
        unfold outT
        rw [List.length_take] at this
        omega) ?_
      refine ⟨⟨_, _, _, rfl⟩, link_congr (hl.app h1 (linkD t)) fun x hx => ?_, hs.new (hla _ h1)⟩
      have et' : ties.take (i + 1) = ties.take i ++ [t] := by
        rw [List.take_succ, et]
        rfl
      rw [et']
      unfold outT
      rw [List.filter_append, List.map_append]
      by_cases e : x = t.1
      · rw [if_pos e, e, List.filter_cons, if_pos (by simp)]
        rfl
      · rw [if_neg e, List.filter_cons, if_neg (by simpa using fun z => e z.symm)]
        simp
    · rintro γ ρ3 ⟨⟨v4, v5, v6, rfl⟩, hl, hs⟩
      rw [List.length_map, List.length_map, List.take_length] at hl
      with_reducible repeat (first | refine ws_seq ?_ | refine ws_asg ?_)
      refine we_dictM fun tb htb => ?_
      have nli : ρ li = none := hli
      have ntb : ρ tb = none := by
        cases e : ρ tb with
        | none => rfl
        | some o =>
          rw [hs tb o e] at htb
          cases htb
      have tli : tb ≠ li := fun z => by rw [z, hl.h] at htb; cases htb
      have tla : ∀ n, n ∈ names → la n ≠ tb := fun n hn z => by
        have := hl.l n hn
        rw [z, htb] at this
        cases this
      with_reducible repeat (first | refine ws_seq ?_ | refine wg_name ?_)
      refine ws_for (wi_rev ?_)
      repeat (first | refine we_var rfl ?_ | with_reducible refine wa_cons ?_ | with_reducible refine wa_nil ?_ | with_reducible refine we_call ?_)
      refine ⟨names, ties, rfl, hf, fun W hW => ?_⟩
      with_reducible repeat (first | refine wa_nil ?_)
      obtain ⟨hperm, htop⟩ := hW
      have hWn : W.Nodup := hperm.nodup_iff.mpr nd
      refine ⟨_, _, rfl, lsd, fun i γ ρ' => (∃ v2 v4 v5 v6 v8 v9 v10, γ = [some (.d (.tup (names.map D.str))), some (.d (.lst (ties.map tieD))), v2, some (.m li), v4, v5, v6, some (.m tb), v8, v9, v10]) ∧
        LinkS ρ' li names la (fun n => (outT ties n).map linkD) ∧ AB.Sub ρ ρ' ∧ ∃ rows, ρ' tb = some (.dK (tabK rows)) ∧ rows.map Prod.fst = W.reverse.take i ∧ ∀ p, p ∈ rows → RowOk p.2 (Path ties p.1), ?_, fun _ _ _ _ _ => lsd, ?_, ?_⟩
      · exact ⟨⟨_, _, _, _, _, _, _, rfl⟩, hl.pu tli tla, hs.new ntb, [], pu_same, by simp, fun p hp => by simp at hp⟩
      · rintro i y γ ρ4 ey ⟨⟨v2, v4, v5, v6, v8, v9, v10, rfl⟩, hl, hs, rows, htb4, hrk, hrow⟩
        rw [← List.map_reverse, ← List.map_reverse, List.getElem?_map, List.getElem?_map] at ey
        obtain ⟨d, ed, rfl⟩ := Option.map_eq_some_iff.mp ey
        obtain ⟨n, en, rfl⟩ := Option.map_eq_some_iff.mp ed
        have hn : n ∈ names := hperm.mem_iff.mp (List.mem_reverse.mp (List.mem_of_getElem? en))
        have hil : i < W.length := by
          have := (List.getElem?_eq_some_iff.mp en).1
          rw [List.length_reverse] at this
          exact this
        have en' : W[W.length - 1 - i]? = some n := by rw [← List.getElem?_reverse hil]; exact en
        -- each tie's end has its row
        have hend : ∀ t ∈ ties, t.1 = n → ∃ r, valA rows t.2.1 = some r ∧ RowOk r (Path ties t.2.1) := fun t ht e => by
          obtain ⟨a, b, hab, ea, eb⟩ := htop t ht
          have hb : b < W.length := (List.getElem?_eq_some_iff.mp eb).1
          have ha : a = W.length - 1 - i := by
            have h1 := List.getElem?_eq_some_iff.mp ea
            have h2 := List.getElem?_eq_some_iff.mp en'
            obtain ⟨x1, y1⟩ := h1
            obtain ⟨x2, y2⟩ := h2
            have h3 := List.pairwise_iff_getElem.mp hWn
            rcases Nat.lt_trichotomy a (W.length - 1 - i) with c | c | c
            · exact absurd (by rw [y1, y2, e]) (h3 _ _ x1 x2 c)
            · exact c
            · exact absurd (by rw [y1, y2, e]) (h3 _ _ x2 x1 c)
          have hm : t.2.1 ∈ rows.map Prod.fst := by
            rw [hrk]
            have e2 : W.reverse[W.length - 1 - b]? = some t.2.1 := by
              rw [List.getElem?_reverse (by omega)]
              rw [show W.length - 1 - (W.length - 1 - b) = b by omega]
              exact eb
            obtain ⟨hj, e3⟩ := List.getElem?_eq_some_iff.mp e2
            refine List.mem_iff_getElem.mpr ⟨W.length - 1 - b, by rw [List.length_take]; omega, ?_⟩
            rw [List.getElem_take]
            exact e3
          cases e4 : valA rows t.2.1 with
          | none => exact absurd hm (valA_none.mp e4)
          | some r => exact ⟨r, rfl, hrow _ (valA_mem e4)⟩
        with_reducible repeat (first | refine ws_seq ?_ | refine ws_asg ?_ | refine wg_name ?_)
        refine we_dictM fun lg hlg => ?_
        have nlg : ρ lg = none := by
          cases e : ρ lg with
          | none => rfl
          | some o =>
            rw [hs lg o e] at hlg
            cases hlg
        have gli : lg ≠ li := fun z => by rw [z, hl.h] at hlg; cases hlg
        have gtb : lg ≠ tb := fun z => by rw [z, htb4] at hlg; cases hlg
        have gla : ∀ m, m ∈ names → la m ≠ lg := fun m hm z => by
          have := hl.l m hm
          rw [z, hlg] at this
          cases this
        with_reducible repeat (first | refine ws_seq ?_ | refine wg_name ?_)
        refine ws_for (wi_list (we_dget ?_))
        repeat (first | refine we_var rfl ?_)
        refine ⟨_, link_get (hl.pu gli gla) hn, ?_⟩
        refine ⟨_, lsm ((hl.pu gli gla).l n hn), fun j γ ρ' => (∃ v4 v5 v6 v9 v10, γ = [some (.d (.tup (names.map D.str))), some (.d (.lst (ties.map tieD))), some (.d (.str n)), some (.m li), v4, v5, v6, some (.m tb), some (.m lg), v9, v10]) ∧
          LinkS ρ' li names la (fun n => (outT ties n).map linkD) ∧ AB.Sub ρ ρ' ∧ ρ' tb = some (.dK (tabK rows)) ∧ ∃ row, ρ' lg = some (.dK (rowK row)) ∧
          RowOk row (fun x u => ∃ t ∈ (outT ties n).take j, (x = t.2.1 ∧ u = t.2.2) ∨ ∃ h, Path ties t.2.1 x h ∧ u = t.2.2 + h), ?_, ?_, ?_, ?_⟩
        · exact ⟨⟨_, _, _, _, _, rfl⟩, hl.pu gli gla, hs.new nlg, by rw [pu_ne (Ne.symm gtb)]; exact htb4, [], pu_same, ⟨by simp, fun p hp => by simp at hp, fun x u ⟨t, ht, _⟩ => by simp at ht⟩⟩
        · rintro j γ ρ' _ ⟨_, hl', _⟩
          exact lsm (hl'.l n hn)
        · rintro j y γ ρ5 ey ⟨⟨v4, v5, v6, v9, v10, rfl⟩, hl5, hs5, htb5, row, hlg5, hrow5⟩
          rw [List.getElem?_map, List.getElem?_map] at ey
          obtain ⟨d, ed, rfl⟩ := Option.map_eq_some_iff.mp ey
          obtain ⟨t, et, rfl⟩ := Option.map_eq_some_iff.mp ed
          have htm := List.mem_filter.mp (List.mem_of_getElem? et)
          have ht : t ∈ ties := htm.1
          have htn : t.1 = n := of_decide_eq_true htm.2
          obtain ⟨h1, h2⟩ := hin t ht
          obtain ⟨r, er, hr⟩ := hend t ht htn
          have hg0 := hg t ht
          have hS0 : ∀ x u, (∃ t ∈ (outT ties n).take j, (x = t.2.1 ∧ u = t.2.2) ∨ ∃ h, Path ties t.2.1 x h ∧ u = t.2.2 + h) → 0 ≤ u := fun x u ⟨q, hq, hc⟩ => by
            have hq' : q ∈ ties := (List.mem_filter.mp (List.mem_of_mem_take hq)).1
            rcases hc with ⟨_, rfl⟩ | ⟨h, hp, rfl⟩
            · exact hg q hq'
            · exact Int.add_nonneg (hg q hq') (hp.nonneg hg)
          have hSm : ∀ x u, (∃ t ∈ (outT ties n).take j, (x = t.2.1 ∧ u = t.2.2) ∨ ∃ h, Path ties t.2.1 x h ∧ u = t.2.2 + h) → x ∈ names := fun x u ⟨q, hq, hc⟩ => by
            have hq' : q ∈ ties := (List.mem_filter.mp (List.mem_of_mem_take hq)).1
            rcases hc with ⟨rfl, _⟩ | ⟨h, hp, _⟩
            · exact (hin q hq').2
            · exact hp.mem hin
          refine wg_tup rfl (wgs_cons (wg_name (wgs_cons (wg_name (wgs_nil ?_)))))
          with_reducible repeat (first | refine ws_seq ?_)
          refine ws_dput ?_
          repeat (first | refine we_var rfl ?_ | with_reducible refine wa_cons ?_ | with_reducible refine we_cb ?_)
          refine we_dget2 ?_
          repeat (first | refine we_var rfl ?_)
          refine ⟨.inl ⟨lg, _, rfl, hlg5⟩, ?_⟩
          repeat (first | refine we_var rfl ?_ | with_reducible refine we_int ?_)
          refine ⟨(valA row t.2.1).map fun v => AB.A.d (.int v), .inl ⟨lg, _, .inr t.2.1, rfl, hlg5, rfl, (rowK_val _ _).symm⟩, ?_⟩
          rw [getD_row]
          with_reducible repeat (first | refine wa_nil ?_)
          refine on_max2 ?_
          repeat (first | refine we_var rfl ?_)
          have rlen : ∀ {row : List (Str × Int)} {S : Str → Int → Prop}, RowOk row S → (∀ x u, S x u → x ∈ names) → (rowK row).length < 100000 := fun {row S} h hm => by
            have := KN.nodup_len h.nd (m := names) fun x hx => by
              obtain ⟨p, hp, rfl⟩ := List.mem_map.mp hx
              exact hm _ _ (h.mx p hp).1
            unfold rowK
            rw [List.length_map] at this ⊢
            omega
          refine ⟨_, .inl ⟨lg, _, .inr t.2.1, rfl, hlg5, rfl, rlen hrow5 hSm, rfl⟩, ?_⟩
          rw [rowK_put]
          have hput := row_put hrow5 hS0 (x := t.2.1) hg0
          refine ws_for (wi_items (we_dget ?_))
          repeat (first | refine we_var rfl ?_)
          refine ⟨.d (rowD r), .inl ⟨tb, _, .inr t.2.1, rfl, by rw [pu_ne (Ne.symm gtb)]; exact htb5, rfl, by rw [tabK_val, er]; rfl⟩, ?_⟩
          refine ⟨_, _, rfl, by simp, ?_⟩
          refine ⟨fun i2 γ ρ' => (∃ v9 v10, γ = [some (.d (.tup (names.map D.str))), some (.d (.lst (ties.map tieD))), some (.d (.str n)), some (.m li), v4, some (.d (.str t.2.1)), some (.d (.int t.2.2)), some (.m tb), some (.m lg), v9, v10]) ∧
            LinkS ρ' li names la (fun n => (outT ties n).map linkD) ∧ AB.Sub ρ ρ' ∧ ρ' tb = some (.dK (tabK rows)) ∧ ∃ row, ρ' lg = some (.dK (rowK row)) ∧
            RowOk row (fun x u => ((∃ t ∈ (outT ties n).take j, (x = t.2.1 ∧ u = t.2.2) ∨ ∃ h, Path ties t.2.1 x h ∧ u = t.2.2 + h) ∨ (x = t.2.1 ∧ u = t.2.2)) ∨ ∃ p ∈ r.take i2, x = p.1 ∧ u = t.2.2 + p.2), ?_, fun _ _ _ _ _ => trivial, ?_, ?_⟩
          · refine ⟨⟨_, _, rfl⟩, hl5.pu gli gla, hs5.new nlg, by rw [pu_ne (Ne.symm gtb)]; exact htb5, _, pu_same, hput.widen (fun x u h => .inl h) fun x u h => ?_⟩
            rcases h with h | ⟨p, hp, _⟩
            · exact ⟨u, h, Int.le_refl _⟩
            · simp at hp
          · rintro i2 y γ ρ6 ey ⟨⟨v9, v10, rfl⟩, hl6, hs6, htb6, row6, hlg6, hrow6⟩
            rw [items_row, List.getElem?_map] at ey
            obtain ⟨p, ep, rfl⟩ := Option.map_eq_some_iff.mp ey
            have hpr := List.mem_of_getElem? ep
            have hpp := (hr.mx p hpr).1
            have hp0 := hpp.nonneg hg
            have hS6 : ∀ x u, (((∃ t ∈ (outT ties n).take j, (x = t.2.1 ∧ u = t.2.2) ∨ ∃ h, Path ties t.2.1 x h ∧ u = t.2.2 + h) ∨ (x = t.2.1 ∧ u = t.2.2)) ∨ ∃ p ∈ r.take i2, x = p.1 ∧ u = t.2.2 + p.2) → 0 ≤ u ∧ x ∈ names := fun x u h => by
              rcases h with (h | ⟨rfl, rfl⟩) | ⟨q, hq, rfl, rfl⟩
              · exact ⟨hS0 x u h, hSm x u h⟩
              · exact ⟨hg0, h2⟩
              · have := (hr.mx q (List.mem_of_mem_take hq)).1
                exact ⟨Int.add_nonneg hg0 (this.nonneg hg), this.mem hin⟩
            refine wg_ptup rfl (wgs_cons (wg_name (wgs_cons (wg_name (wgs_nil ?_)))))
            skip
            refine ws_dput ?_
            repeat (first | with_reducible refine we_op ?_ | refine we_var rfl ?_ | with_reducible refine wa_cons ?_ | with_reducible refine we_cb ?_ | refine o2_I0 (fun _ => Rep.int _) ?_)
            refine we_dget2 ?_
            repeat (first | refine we_var rfl ?_)
            refine ⟨.inl ⟨lg, _, rfl, hlg6⟩, ?_⟩
            repeat (first | refine we_var rfl ?_ | with_reducible refine we_int ?_)
            refine ⟨(valA row6 p.1).map fun v => AB.A.d (.int v), .inl ⟨lg, _, .inr p.1, rfl, hlg6, rfl, (rowK_val _ _).symm⟩, ?_⟩
            rw [getD_row]
            with_reducible repeat (first | refine wa_nil ?_)
            refine on_max2 ?_
            repeat (first | refine we_var rfl ?_)
            refine ⟨_, .inl ⟨lg, _, .inr p.1, rfl, hlg6, rfl, rlen hrow6 fun x u h => (hS6 x u h).2, rfl⟩, ?_⟩
            rw [rowK_put]
            have hput6 := row_put hrow6 (fun x u h => (hS6 x u h).1) (x := p.1) (g := t.2.2 + p.2) (Int.add_nonneg hg0 hp0)
            refine ⟨⟨_, _, rfl⟩, hl6.pu gli gla, hs6.new nlg, by rw [pu_ne (Ne.symm gtb)]; exact htb6, _, pu_same, hput6.widen (fun x u h => ?_) fun x u h => ⟨u, ?_, Int.le_refl _⟩⟩
            · rcases h with (h | ⟨q, hq, hc⟩) | ⟨hx, hu2⟩
              · exact .inl h
              · exact .inr ⟨q, by rw [List.take_succ]; exact List.mem_append_left _ hq, hc⟩
              · exact .inr ⟨p, by rw [List.take_succ, ep]; simp, hx, hu2⟩
            · rcases h with h | ⟨q, hq, hc⟩
              · exact .inl (.inl h)
              · rw [List.take_succ, ep] at hq
                rcases List.mem_append.mp hq with z | z
                · exact .inl (.inr ⟨q, z, hc⟩)
                · have : q = p := by simpa using z
                  rw [this] at hc
                  exact .inr hc
          · rintro γ ρ6 ⟨⟨v9, v10, rfl⟩, hl6, hs6, htb6, row6, hlg6, hrow6⟩
            rw [items_row, List.length_map, List.take_length] at hrow6
            refine ⟨⟨_, _, _, _, _, rfl⟩, hl6, hs6, htb6, row6, hlg6, hrow6.widen (fun x u h => ?_) fun x u ⟨q, hq, hc⟩ => ?_⟩
            · rcases h with (⟨q, hq, hc⟩ | h) | ⟨q, hq, hx, hu2⟩
              · exact ⟨q, by rw [List.take_succ]; exact List.mem_append_left _ hq, hc⟩
              · exact ⟨t, by rw [List.take_succ, et]; simp, .inl h⟩
              · exact ⟨t, by rw [List.take_succ, et]; simp, .inr ⟨q.2, by rw [hx]; exact (hr.mx q hq).1, hu2⟩⟩
            · rw [List.take_succ, et] at hq
              rcases List.mem_append.mp hq with z | z
              · exact ⟨u, .inl (.inl ⟨q, z, hc⟩), Int.le_refl _⟩
              · have eq : q = t := by simpa using z
                subst eq
                rcases hc with hc | ⟨h, hp, rfl⟩
                · exact ⟨u, .inl (.inr hc), Int.le_refl _⟩
                · obtain ⟨p, hp1, hp2⟩ := List.mem_map.mp (hr.all x h hp)
                  refine ⟨q.2.2 + p.2, .inr ⟨p, hp1, hp2.symm, rfl⟩, ?_⟩
                  have := (hr.mx p hp1).2 h (by rw [hp2]; exact hp)
                  omega
        · rintro γ ρ5 ⟨⟨v4, v5, v6, v9, v10, rfl⟩, hl5, hs5, htb5, row, hlg5, hrow5⟩
          rw [List.length_map, List.length_map, List.take_length] at hrow5
          have hfin : RowOk row (Path ties n) := by
            refine hrow5.widen (fun x u ⟨q, hq, hc⟩ => ?_) fun x u hp => ⟨u, ?_, Int.le_refl _⟩
            · have hq1 := List.mem_filter.mp hq
              have e1 : q.1 = n := of_decide_eq_true hq1.2
              have hm : (n, q.2.1, q.2.2) ∈ ties := by rw [← e1]; exact hq1.1
              rcases hc with ⟨rfl, rfl⟩ | ⟨h, hp, rfl⟩
              · exact .one hm
              · exact .more hm hp
            · cases hp with
              | one h => exact ⟨_, List.mem_filter.mpr ⟨h, by simp⟩, .inl ⟨rfl, rfl⟩⟩
              | more h p => exact ⟨_, List.mem_filter.mpr ⟨h, by simp⟩, .inr ⟨_, p, rfl⟩⟩
          refine ws_frz (i := 8) (a := lg) rfl (by rw [hlg5, rowK_zip]) (by simp) ?_
          refine ws_dput ?_
          repeat (first | refine we_var rfl ?_)
          have nk : n ∉ rows.map Prod.fst := by
            rw [hrk]
            intro m
            obtain ⟨hj, e3⟩ := List.getElem?_eq_some_iff.mp en
            have := nodup_take ((List.reverse_perm W).nodup_iff.mpr hWn) hj
            rw [e3] at this
            exact this m
          have rl : (tabK rows).length < 100000 := by
            have : rows.length = (rows.map Prod.fst).length := by rw [List.length_map]
            unfold tabK
            rw [List.length_map, this, hrk, List.length_take, List.length_reverse, hperm.length_eq]
            omega
          refine ⟨_, .inl ⟨tb, _, .inr n, rfl, by rw [rm_ne (Ne.symm gtb)]; exact htb5, rfl, rl, rfl⟩, ?_⟩
          refine ⟨⟨_, _, _, _, _, _, _, rfl⟩, (hl5.rm gli gla).pu tli tla, (sub_rm hs5 nlg).new ntb, rows ++ [(n, row)], ?_, ?_, ?_⟩
          · rw [pu_same]
            exact congrArg (fun z => some (Mo.dK z)) (tabK_put nk row)
          · rw [List.map_append, hrk, List.take_succ, en]
            rfl
          · intro p hp
            rcases List.mem_append.mp hp with q | q
            · exact hrow p q
            · rw [List.mem_singleton.mp q]
              exact hfin
      · rintro γ ρ4 ⟨⟨v2, v4, v5, v6, v8, v9, v10, rfl⟩, hl, hs, rows, htb4, hrk, hrow⟩
        have hlW : (List.map AB.A.d (W.map D.str)).reverse.length = W.reverse.length := by simp
        rw [hlW, List.take_length] at hrk
        refine ws_frz (i := 7) (a := tb) rfl (by rw [htb4, tabK_zip]) (by simp) ?_
        repeat (first | with_reducible refine ws_ret ?_ | refine we_var rfl ?_)
        exact ⟨ρ, sub_rm hs ntb, k rows ⟨by rw [hrk]; exact (List.reverse_perm W).trans hperm, hrow⟩⟩
end
end K82
set_option Elab.async false
set_option linter.all false
set_option maxRecDepth 100000
set_option maxHeartbeats 4000000
namespace K82
open PySem PySem.Spec PyProof.Rows L2 Evl HB AB KX
structure Txt2 (K : PySem.W.Frag) (mg : Str → Option Value) extends Txt1 K mg where
  dlag_table : Fd K mg "lag_table" slag_table ["names", "ties"]
section
variable {P : Program} {w : World} {K : PySem.W.Frag} {mg : Str → Option Value} {base : Heap}
/-! ### behind_table -/
abbrev sbehind_table : Stmt := topS 9
theorem scbehind_table : FnScope ["bare", "names", "ties", "one", "other"] ["bare"] (defScope sbehind_table) := ⟨rfl, rfl, rfl, by decide +kernel, rfl, by decide +kernel, by decide +kernel⟩
def pairD (p : Str × Str) : D := .ptup [.str p.1, .str p.2]
def bareD (names : List Str) (ps : List (Str × Str)) : D := .tup [.tup (names.map D.str), .tup (ps.map pairD)]
def one3 (ps : List (Str × Str)) : List Tie := ps.map fun p => (p.1, p.2, 1)
def FBeh (xs : List AB.A) (ρ : Sto) (R : QA) : Prop := ∃ names ps, xs = [.d (bareD names ps)] ∧ Fits names (one3 ps) ∧ ∀ rows, TabOk names (one3 ps) rows → R (.d (tabD rows)) ρ
theorem ok_beh {f : Addr} {fd : FuncData} (F : Fun K "behind_table" "behind_table" sbehind_table f fd) (T : Txt2 K mg) : FnOk P w K mg base CX0 3 f fd ["bare"] (spA FBeh) := by
  have Glag_table : FnOk P w K mg base CX0 2 T.dlag_table.f T.dlag_table.fd ["names", "ties"] (spA FLag) := ok_lag T.dlag_table.F T.toTxt1
  refine F.ok scbehind_table (spA_len fun xs ρ R h => ?_) (fun cdv Ar outer s H vs Q E hr h => ?_)
  · obtain ⟨names, ps, rfl, _⟩ := h
    rfl
  · refine ⟨_, (pss_cons (ps_asg (pv 0) (pg_tup rfl (pgs_cons (pg_name (i := 1) scbehind_table.nd rfl (Or.inl rfl)) (pgs_cons (pg_name (i := 2) scbehind_table.nd rfl (Or.inl rfl)) pgs_nil))))
  (pss_one (ps_ret (pe_call Glag_table (hr.mono (by first | decide | omega)) rfl T.dlag_table.g T.dlag_table.k T.dlag_table.b .nil pass0 (pa_cons (pv 1) (pa_cons (pe_lc (g := (gTup K 2 (gCons (gName 3) (gCons (gName 4) gNil)))) (own := [("one", 3), ("other", 4)]) rfl scbehind_table.nd (pi_tup (pv 2)) (blkOk_by (N := ["bare", "names", "ties", "one", "other"]) (sc := defScope sbehind_table) (by decide +kernel)) (fun _ _ _ _ _ => (pg_tup rfl (pgs_cons (pg_name (i := 3) scbehind_table.nd rfl (Or.inl rfl)) (pgs_cons (pg_name (i := 4) scbehind_table.nd rfl (Or.inl rfl)) pgs_nil)))) (fun _ _ _ _ _ => pts_nil) (fun _ _ _ _ _ => (pe_tupZ (pa_cons (pv 3) (pa_cons (pv 4) (pa_cons pe_int pa_nil)))))) pa_nil)))))), body_of h fun ρ xs R hF => ?_⟩
    obtain ⟨names, ps, rfl, hf, k⟩ := hF
    have hpz : ps.length ≤ 2000 := by
      have := hf.2.2.1
      unfold one3 at this
      rw [List.length_map] at this
      exact this
    repeat (first | with_reducible refine ws_seq ?_ | with_reducible refine ws_asg ?_ | refine we_var rfl ?_)
    refine wg_tup rfl (wgs_cons (wg_name (wgs_cons (wg_name (wgs_nil ?_)))))
    repeat (first | with_reducible refine ws_ret ?_ | refine we_var rfl ?_ | with_reducible refine wa_cons ?_ | with_reducible refine we_call ?_)
    refine we_lcD (wi_tup ?_)
    repeat (first | refine we_var rfl ?_)
    refine ⟨_, rfl, fun i => (ps[i]?).bind fun p => some (tieD (p.1, p.2, 1)), fun _ _ => trivial, by rw [List.length_map, List.length_map]; omega, fun i y ρx ey sb => ?_, ?_⟩
    · rw [List.getElem?_map, List.getElem?_map] at ey
      obtain ⟨d, ed, rfl⟩ := Option.map_eq_some_iff.mp ey
      obtain ⟨p, ep, rfl⟩ := Option.map_eq_some_iff.mp ed
      refine wgv_ptup rfl (wgsv_cons (wgv_name (by decide) (wgsv_cons (wgv_name (by decide) (wgsv_nil ⟨rfl, wt_yes ⟨rfl, fun _ => ?_, fun z => by cases z⟩⟩)))))
      refine we_tup ?_
      repeat (first | refine we_var rfl ?_ | with_reducible refine we_int ?_ | with_reducible refine wa_cons ?_ | with_reducible refine wa_nil ?_)
      refine ⟨[.str p.1, .str p.2, .int 1], rfl, (by show 3 ≤ 100000; decide), rfl, _, rfl, ?_⟩
      show (ps[i]?).bind (fun p => some (tieD (p.1, p.2, 1))) = _
      rw [ep]
      rfl
    have e : (List.range ((ps.map pairD).map AB.A.d).length).filterMap (fun i => (ps[i]?).bind fun p => some (tieD (p.1, p.2, 1))) = (one3 ps).map tieD := by
      rw [List.length_map, List.length_map, KN.range_fm ps _ _ (Nat.le_refl _), List.take_length]
      unfold one3
      rw [List.map_map]
      clear hf k hpz
      induction ps with
      | nil => rfl
      | cons p ps ih => exact congrArg (fun l => tieD (p.1, p.2, 1) :: l) ih
    rw [e]
    with_reducible repeat (first | refine wa_nil ?_)
    refine ⟨names, one3 ps, rfl, hf, fun t ht => ?_, fun rows hrows => ⟨_, AB.Sub.refl _, k rows hrows⟩⟩
    unfold one3 at ht
    obtain ⟨p, _, rfl⟩ := List.mem_map.mp ht
    show (0 : Int) ≤ 1
    decide
end
end K82
set_option Elab.async false
set_option linter.all false
set_option maxRecDepth 100000
set_option maxHeartbeats 4000000
namespace K82
open PySem PySem.Spec PyProof.Rows L2 Evl HB AB KX
section
variable {P : Program} {w : World} {K : PySem.W.Frag} {mg : Str → Option Value} {base : Heap}
/-! ### freed_by -/
abbrev sfreed_by : Stmt := topS 11
theorem scfreed_by : FnScope ["table", "came", "name", "taken", "waiting", "at", "other"] ["table", "came", "name", "taken"] (defScope sfreed_by) := ⟨rfl, rfl, rfl, by decide +kernel, rfl, by decide +kernel, by decide +kernel⟩
def strK (l : List (Str × Str)) : List (Key × AB.A) := l.map fun p => ((Sum.inr p.1 : Key), AB.A.d (.str p.2))
theorem strK_val (x : Str) : ∀ l : List (Str × Str), valA (strK l) (Sum.inr x : Key) = (valA l x).map fun v => AB.A.d (.str v)
  | [] => rfl
  | p :: l => by
    show valA (((Sum.inr p.1 : Key), AB.A.d (.str p.2)) :: strK l) (Sum.inr x : Key) = _
    by_cases e : p.1 = x
    · rw [valA_pos (by rw [e]), valA_pos e]
      rfl
    · rw [valA_neg (fun z => e (Sum.inr.inj z)), valA_neg e]
      exact strK_val x l
theorem strK_put (l : List (Str × Str)) (x v : Str) : putA (strK l) (Sum.inr x : Key) (AB.A.d (.str v)) = strK (putA l x v) := by
  unfold putA strK
  have ha : ((l.map fun p => ((Sum.inr p.1 : Key), AB.A.d (.str p.2))).any fun kv => decide (kv.1 = Sum.inr x)) = l.any fun kv => decide (kv.1 = x) := by
    rw [List.any_map]
    congr 1
    funext p
    exact decide_eq_decide.mpr ⟨fun z => Sum.inr.inj z, fun z => by show Sum.inr p.1 = Sum.inr x; rw [z]⟩
  rw [ha]
  split
  · rw [List.map_map, List.map_map]
    apply List.map_congr_left
    intro p _
    show (if (Sum.inr p.1 : Key) = Sum.inr x then ((Sum.inr p.1 : Key), AB.A.d (.str v)) else ((Sum.inr p.1 : Key), AB.A.d (.str p.2))) = _
    by_cases e : p.1 = x
    · rw [if_pos (by rw [e])]
      show _ = ((Sum.inr (if p.1 = x then (p.1, v) else p).1 : Key), AB.A.d (.str (if p.1 = x then (p.1, v) else p).2))
      rw [if_pos e]
    · rw [if_neg (fun z => e (Sum.inr.inj z))]
      show _ = ((Sum.inr (if p.1 = x then (p.1, v) else p).1 : Key), AB.A.d (.str (if p.1 = x then (p.1, v) else p).2))
      rw [if_neg e]
  · rw [List.map_append]
    rfl
theorem putA_end {l : List (Str × Str)} {x v : Str} (h : x ∉ l.map Prod.fst) : putA l x v = l ++ [(x, v)] := by
  unfold putA
  have ha : ¬ (l.any fun kv => decide (kv.1 = x)) = true := by
    rw [List.any_eq_true]
    rintro ⟨p, hp, z⟩
    exact h (List.mem_map.mpr ⟨p, hp, of_decide_eq_true z⟩)
  rw [if_neg ha]
/-- who follows x in a table -/
def succ (rows : List (Str × List (Str × Int))) (x : Str) : List Str := ((valA rows x).getD []).map Prod.fst
/-- y follows x -/
abbrev SR (rows : List (Str × List (Str × Int))) : Str → Str → Prop := fun x y => y ∈ succ rows x
structure Found (S : Str → Str → Prop) (M : List (Str × Str)) (name : Str) (came : List (Str × Str)) : Prop where
  nd : (came.map Prod.fst).Nodup
  by_ : ∀ (k : Nat) (p : Str × Str), came[k]? = some p → S p.2 p.1 ∧ (p.2 = name ∨ ∃ (j : Nat) (q : Str × Str), j < k ∧ came[j]? = some q ∧ valA M q.1 = some p.2)
/-- all names that a search has met are taken -/
def Met (M came : List (Str × Str)) : Prop := ∀ p, p ∈ came → ∃ l, valA M p.1 = some l
structure TabFit (names : List Str) (rows : List (Str × List (Str × Int))) : Prop where
  nz : names.length ≤ 1000
  has : ∀ x, x ∈ names → ∃ r, valA rows x = some r
  into : ∀ x y, y ∈ succ rows x → y ∈ names
def FFree (xs : List AB.A) (ρ : Sto) (R : QA) : Prop := ∃ names rows c name tk M, xs = [.d (tabD rows), .m c, .d (.str name), .m tk] ∧ c ≠ tk ∧ TabFit names rows ∧ name ∈ names ∧ ρ c = some (.dK []) ∧ ρ tk = some (.dK (strK M)) ∧ (∀ p, p ∈ M → p.2 ∈ names) ∧
  (∀ came, Found (SR rows) M name came → Met M came → (∀ l, (l = name ∨ ∃ p, p ∈ came ∧ valA M p.1 = some l) → ∀ r, r ∈ succ rows l → r ∈ came.map Prod.fst) → R (.d .non) (pu ρ c (.dK (strK came)))) ∧
  (∀ came f l, Found (SR rows) M name (came ++ [(f, l)]) → Met M came → valA M f = none → R (.d (.str f)) (pu ρ c (.dK (strK (came ++ [(f, l)])))))
/-- the search's own line: the start, then the partner of each name met -/
def Wt (M : List (Str × Str)) (name : Str) (came : List (Str × Str)) : List Str := name :: came.map fun p => (valA M p.1).getD Str.empty
theorem Wt_app (M : List (Str × Str)) (name : Str) (came : List (Str × Str)) (p : Str × Str) : Wt M name (came ++ [p]) = Wt M name came ++ [(valA M p.1).getD Str.empty] := by
  unfold Wt
  rw [List.map_append]
  rfl
theorem Wt_at {M : List (Str × Str)} {name : Str} {came : List (Str × Str)} (h : Met M came) {j : Nat} {l : Str} (e : (Wt M name came)[j]? = some l) : l = name ∨ ∃ (i : Nat) (q : Str × Str), i < came.length ∧ came[i]? = some q ∧ valA M q.1 = some l := by
  unfold Wt at e
  cases j with
  | zero => exact .inl (Option.some.inj e).symm
  | succ j =>
    rw [List.getElem?_cons_succ, List.getElem?_map] at e
    obtain ⟨q, eq, el⟩ := Option.map_eq_some_iff.mp e
    obtain ⟨l', hl'⟩ := h q (List.mem_of_getElem? eq)
    rw [hl'] at el
    exact .inr ⟨j, q, (List.getElem?_eq_some_iff.mp eq).1, eq, by rw [hl']; exact congrArg some el⟩
theorem Found.app {S : Str → Str → Prop} {M : List (Str × Str)} {name : Str} {came : List (Str × Str)} (h : Found S M name came) {o l : Str} (no : o ∉ came.map Prod.fst) (hs : S l o)
    (hl : l = name ∨ ∃ (i : Nat) (q : Str × Str), i < came.length ∧ came[i]? = some q ∧ valA M q.1 = some l) : Found S M name (came ++ [(o, l)]) := by
  refine ⟨?_, fun k p hk => ?_⟩
  · rw [List.map_append, List.nodup_append]
    refine ⟨h.nd, by simp, fun a ha b hb z => ?_⟩
    rw [List.map_cons, List.map_nil, List.mem_singleton] at hb
    rw [z, hb] at ha
    exact no ha
  · rcases Nat.lt_or_ge k came.length with c | c
    · rw [List.getElem?_append_left c] at hk
      obtain ⟨h1, h2⟩ := h.by_ k p hk
      refine ⟨h1, h2.imp id fun ⟨j, q, hj, eq, hv⟩ => ⟨j, q, hj, by rw [List.getElem?_append_left (by omega)]; exact eq, hv⟩⟩
    · rw [List.getElem?_append_right c] at hk
      have e0 : k - came.length = 0 := by
        have := (List.getElem?_eq_some_iff.mp hk).1
        simp at this
        omega
      rw [e0] at hk
      cases Option.some.inj hk
      refine ⟨hs, hl.imp id fun ⟨j, q, hj, eq, hv⟩ => ⟨j, q, by omega, by rw [List.getElem?_append_left hj]; exact eq, hv⟩⟩
theorem Found.names_ {S : Str → Str → Prop} {M : List (Str × Str)} {name : Str} {names : List Str} {came : List (Str × Str)} (h : Found S M name came) (T : ∀ x y, S x y → y ∈ names) : came.length ≤ names.length := by
  have := KN.nodup_len h.nd (m := names) fun x hx => by
    obtain ⟨p, hp, rfl⟩ := List.mem_map.mp hx
    obtain ⟨k, hk, e⟩ := List.mem_iff_getElem.mp hp
    exact T _ _ (h.by_ k p (by rw [List.getElem?_eq_getElem hk, e])).1
  rw [List.length_map] at this
  exact this
theorem Found.names {rows : List (Str × List (Str × Int))} {M : List (Str × Str)} {name : Str} {names : List Str} {came : List (Str × Str)} (h : Found (SR rows) M name came) (T : TabFit names rows) : came.length ≤ names.length := h.names_ T.into
theorem tab_get {rows : List (Str × List (Str × Int))} {x : Str} {r : List (Str × Int)} {ρ : Sto} (h : valA rows x = some r) : DGA (.d (tabD rows)) (.d (.str x)) ρ (some (.d (rowD r))) :=
  .inr (.inl ⟨_, _, .inr x, rfl, rfl, by simp, by rw [← tabK_zip, tabK_val, h]; rfl⟩)
theorem str_get {l : List (Str × Str)} {x : Str} {ρ : Sto} {a : Addr} (h : ρ a = some (.dK (strK l))) : DGA (.m a) (.d (.str x)) ρ ((valA l x).map fun v => AB.A.d (.str v)) :=
  .inl ⟨a, _, .inr x, rfl, h, rfl, (strK_val x l).symm⟩
theorem isSome_map {α β : Type} (o : Option α) (g : α → β) : (o.map g).isSome = o.isSome := by cases o <;> rfl
theorem ok_free {f : Addr} {fd : FuncData} (F : Fun K "freed_by" "freed_by" sfreed_by f fd) (T : Tz mg) : FnOk P w K mg base CX0 1 f fd ["table", "came", "name", "taken"] (spA FFree) := by
  refine F.ok scfreed_by (spA_len fun xs ρ R h => ?_) (fun cdv Ar outer s H vs Q E hr h => ?_)
  · obtain ⟨_, _, _, _, _, _, rfl, _⟩ := h
    rfl
  · have hu : _ + 1 < cLine := hu_of hr
    refine ⟨_, (pss_cons (ps_set (i := 4) scfreed_by.nd rfl (Or.inl rfl) (pe_lst (pa_cons (pv 2) pa_nil)))
  (pss_cons (ps_set (i := 5) scfreed_by.nd rfl (Or.inl rfl) pe_int)
  (pss_cons (ps_while PassesOwn.never (pt_cmpR op_lt (pv 5) (pe_callB call_len_seq (by rfl) T.z_len bt_len (pa_cons (pv 4) pa_nil)) (nomark _)) (pss_cons (ps_for PassesOwn.never rfl (pi_keys (pe_dget hu (pv 0) (pe_ix ix_list (pv 4) (pv 5) (fun _ _ => rfl)) (fun _ _ => rfl))) (pg_name (i := 6) scfreed_by.nd rfl (Or.inl rfl))
  (pss_one (ps_if (pt_cmp (pc_dnotin hu (pv 6) (pv 1))) (pss_cons (ps_dput hu (pv 1) (pv 6) (pe_ix ix_list (pv 4) (pv 5) (fun _ _ => rfl)) rfl)
  (pss_cons (ps_if (pt_cmp (pc_dnotin hu (pv 6) (pv 3))) (pss_one (ps_ret (pv 6)))
  pss_nil)
  (pss_one (ps_expr (pe_bm PySem.F.plainAttrs_list PySem.F.slot_list_append PySem.F.type_list_append mt_append (pv 4) (pa_cons (pe_dget hu (pv 3) (pv 6) (fun _ _ => rfl)) pa_nil))))))
  pss_nil)))
  (pss_one (ps_aug (i := 5) scfreed_by.nd rfl (Or.inl rfl) pe_int ip_add))))
  (pss_one (ps_ret pe_non))))), body_of h fun ρ xs R hF => ?_⟩
    obtain ⟨names, rows, c, name, tk, M, rfl, hct, hT, hn, hc0, htk, hM, kN, kS⟩ := hF
    with_reducible repeat (first | refine ws_seq ?_ | refine ws_asg ?_)
    refine we_lstM ?_
    repeat (first | refine we_var rfl ?_ | with_reducible refine wa_cons ?_ | with_reducible refine wa_nil ?_)
    refine ⟨by show 1 ≤ 100000; decide, fun wt hwt => ?_⟩
    with_reducible repeat (first | refine ws_seq ?_ | refine ws_asg ?_ | refine wg_name ?_ | refine we_int ?_)
    have wc : wt ≠ c := fun z => by rw [z, hc0] at hwt; cases hwt
    have wtk : wt ≠ tk := fun z => by rw [z, htk] at hwt; cases hwt
    have fin : ∀ {ρ' : Sto} {o : Mo}, (∀ a u, a ≠ c → ρ a = some u → ρ' a = some u) → ρ' c = some o → AB.Sub (pu ρ c o) ρ' := fun {ρ' o} h1 h2 a u e => by
      by_cases z : a = c
      · rw [z, pu_same] at e
        rw [z, h2]
        exact e
      · rw [pu_ne z] at e
        exact h1 a u z e
    have hM' : ∀ x l, valA M x = some l → l ∈ names := fun x l h => hM _ (valA_mem h)
    refine ws_while (fun m γ ρ' => ∃ (p : Nat) (came : List (Str × Str)) (v6 : Option AB.A), γ = [some (.d (tabD rows)), some (.m c), some (.d (.str name)), some (.m tk), some (.m wt), some (.d (.int (p : Nat))), v6] ∧ ρ' wt = some (.lst (((Wt M name came).map D.str).map .d)) ∧
      ρ' c = some (.dK (strK came)) ∧ (∀ a u, a ≠ c → ρ a = some u → ρ' a = some u) ∧ Found (SR rows) M name came ∧ Met M came ∧ (∀ (j : Nat) (l : Str), j < p → (Wt M name came)[j]? = some l → ∀ r, r ∈ succ rows l → r ∈ came.map Prod.fst) ∧ p ≤ (Wt M name came).length ∧ m + p = names.length + 1) (names.length + 1) ?_ ?_
    · refine ⟨0, [], none, rfl, pu_same, by rw [pu_ne (Ne.symm wc)]; exact hc0, fun a u _ e => (AB.Sub.refl ρ).new hwt a u e, ⟨by simp, fun k p h => by simp at h⟩, fun p hp => by simp at hp, fun j l h => by omega, Nat.zero_le _, rfl⟩
    · rintro m γ ρ3 ⟨p, came, v6, rfl, hw3, hc3, hs3, hF, hMet, hcl, hp, hm⟩
      have hcn := hF.names hT
      have hWl : (Wt M name came).length = came.length + 1 := by simp [Wt]
      repeat (first | with_reducible refine we_op ?_ | refine we_var rfl ?_ | with_reducible refine wa_cons ?_ | with_reducible refine wa_nil ?_ | with_reducible refine we_cb ?_ | with_reducible refine wt_test ?_)
      refine on_len (lsm hw3) ?_
      repeat (first | refine ⟨_, (rfl : AB.A.d (D.bl _) = _), ?_⟩ | refine o2_I0 (fun _ => Rep.bl _) ?_)
      rw [List.length_map, List.length_map]
      refine ⟨fun b => ?_, fun b => ?_⟩
      · have b' : p < (Wt M name came).length := by
          have := of_decide_eq_true b
          omega
        obtain ⟨l, el⟩ : ∃ l, (Wt M name came)[p]? = some l := ⟨(Wt M name came)[p], List.getElem?_eq_getElem b'⟩
        have hln : l ∈ names := by
          rcases Wt_at hMet el with rfl | ⟨i, q, _, _, hv⟩
          · exact hn
          · exact hM' _ _ hv
        obtain ⟨r, er⟩ := hT.has l hln
        have hsr : succ rows l = r.map Prod.fst := by
          unfold succ
          rw [er]
          rfl
        with_reducible repeat (first | refine ws_seq ?_)
        refine ws_for (wi_keys (we_dget ?_))
        repeat (first | with_reducible refine we_op ?_ | refine we_var rfl ?_)
        refine o2_ixL (lsm hw3) (z := .d (.str l)) (atI_nat' (by rw [List.getElem?_map, List.getElem?_map, el]; rfl)) ?_
        refine ⟨_, tab_get er, ?_⟩
        refine ⟨_, _, rfl, ?_⟩
        refine ⟨fun k γ ρ' => ∃ (came' : List (Str × Str)) (v6 : Option AB.A), γ = [some (.d (tabD rows)), some (.m c), some (.d (.str name)), some (.m tk), some (.m wt), some (.d (.int (p : Nat))), v6] ∧ ρ' wt = some (.lst (((Wt M name came').map D.str).map .d)) ∧
          ρ' c = some (.dK (strK came')) ∧ (∀ a u, a ≠ c → ρ a = some u → ρ' a = some u) ∧ Found (SR rows) M name came' ∧ Met M came' ∧ (∀ (j : Nat) (l : Str), j < p → (Wt M name came')[j]? = some l → ∀ r, r ∈ succ rows l → r ∈ came'.map Prod.fst) ∧ (Wt M name came')[p]? = some l ∧ ∀ q, q ∈ r.take k → q.1 ∈ came'.map Prod.fst, ?_, fun _ _ _ _ _ => trivial, ?_, ?_⟩
        · exact ⟨came, v6, rfl, hw3, hc3, hs3, hF, hMet, hcl, el, fun q hq => by simp at hq⟩
        · rintro k y γ ρ4 ey ⟨came', v6, rfl, hw4, hc4, hs4, hF4, hMet4, hcl4, el4, hk4⟩
          rw [List.getElem?_map, List.getElem?_map] at ey
          obtain ⟨d, ed, rfl⟩ := Option.map_eq_some_iff.mp ey
          obtain ⟨q, eq, rfl⟩ := Option.map_eq_some_iff.mp ed
          have hqr := List.mem_of_getElem? eq
          have hqs : q.1 ∈ succ rows l := by
            rw [hsr]
            exact List.mem_map.mpr ⟨q, hqr, rfl⟩
          have htk4 := hs4 tk _ (Ne.symm hct) htk
          have hcn4 := hF4.names hT
          have hWl4 : (Wt M name came').length = came'.length + 1 := by simp [Wt]
          refine wg_name ?_
          refine ws_if (wt_B (we_dnotin ?_))
          repeat (first | refine we_var rfl ?_)
          refine ⟨_, str_get hc4, ?_⟩
          rw [isSome_map]
          repeat (first | refine ⟨_, (rfl : AB.A.d (D.bl _) = _), ?_⟩)
          refine ⟨fun b1 => ?_, fun b1 => ?_⟩
          · have nk : q.1 ∉ came'.map Prod.fst := valA_none.mp (by cases e : valA came' q.1 with
              | none => rfl
              | some v => rw [e] at b1; cases b1)
            have hF5 := hF4.app nk hqs (Wt_at hMet4 el4)
            with_reducible repeat (first | refine ws_seq ?_)
            refine ws_dput ?_
            repeat (first | with_reducible refine we_op ?_ | refine we_var rfl ?_)
            refine o2_ixL (lsm hw4) (z := .d (.str l)) (atI_nat' (by rw [List.getElem?_map, List.getElem?_map, el4]; rfl)) ?_
            repeat (first | refine we_var rfl ?_)
            refine ⟨_, .inl ⟨c, _, .inr q.1, rfl, hc4, rfl, by have := hT.nz; unfold strK; rw [List.length_map]; omega, rfl⟩, ?_⟩
            rw [strK_put, putA_end nk]
            have hs5 : ∀ a u, a ≠ c → ρ a = some u → (pu ρ4 c (.dK (strK (came' ++ [(q.1, l)])))) a = some u := fun a u z e => by
              rw [pu_ne z]
              exact hs4 a u z e
            refine ws_seq (ws_if (wt_B (we_dnotin ?_)))
            repeat (first | refine we_var rfl ?_)
            refine ⟨_, str_get (hs5 tk _ (Ne.symm hct) htk), ?_⟩
            rw [isSome_map]
            repeat (first | refine ⟨_, (rfl : AB.A.d (D.bl _) = _), ?_⟩)
            refine ⟨fun b2 => ?_, fun b2 => ?_⟩
            · have e2 : valA M q.1 = none := by
                cases e : valA M q.1 with
                | none => rfl
                | some v => rw [e] at b2; cases b2
              repeat (first | with_reducible refine ws_ret ?_ | refine we_var rfl ?_)
              exact ⟨_, fin hs5 pu_same, kS came' q.1 l hF5 hMet4 e2⟩
            · obtain ⟨v, ev⟩ : ∃ v, valA M q.1 = some v := by
                cases e : valA M q.1 with
                | none => rw [e] at b2; cases b2
                | some v => exact ⟨v, rfl⟩
              have hw5 : (pu ρ4 c (.dK (strK (came' ++ [(q.1, l)])))) wt = some (.lst (((Wt M name came').map D.str).map .d)) := by
                rw [pu_ne wc]
                exact hw4
              with_reducible repeat (first | refine ws_drop ?_ | refine ws_next ?_)
              refine we_bm ?_
              repeat (first | refine we_var rfl ?_)
              refine ⟨ty_lst hw5, wa_cons (we_dget ?_)⟩
              repeat (first | refine we_var rfl ?_)
              refine ⟨.d (.str v), by have := str_get (x := q.1) (hs5 tk _ (Ne.symm hct) htk); rw [ev] at this; exact this, ?_⟩
              with_reducible repeat (first | refine wa_nil ?_)
              refine on_append hw5 (by have := hT.nz; rw [List.length_map, List.length_map]; omega) ?_
              have eW : Wt M name (came' ++ [(q.1, l)]) = Wt M name came' ++ [v] := by
                rw [Wt_app]
                show _ ++ [(valA M q.1).getD Str.empty] = _
                rw [ev]
                rfl
              refine ⟨came' ++ [(q.1, l)], _, rfl, ?_, by rw [pu_ne (Ne.symm wc), pu_same], fun a u z e => ?_, hF5, fun z hz => ?_, fun j l' hj e r' hr' => ?_, ?_, fun z hz => ?_⟩
              · rw [pu_same, eW, List.map_append, List.map_append]
                rfl
              · by_cases z2 : a = wt
                · rw [z2, hwt] at e
                  cases e
                · rw [pu_ne z2]
                  exact hs5 a u z e
              · rcases List.mem_append.mp hz with w | w
                · exact hMet4 z w
                · rw [List.mem_singleton.mp w]
                  exact ⟨v, ev⟩
              · rw [eW, List.getElem?_append_left (by have := (List.getElem?_eq_some_iff.mp el4).1; omega)] at e
                rw [List.map_append]
                exact List.mem_append_left _ (hcl4 j l' hj e r' hr')
              · rw [eW, List.getElem?_append_left (List.getElem?_eq_some_iff.mp el4).1]
                exact el4
              · rw [List.map_append]
                rw [List.take_succ, eq] at hz
                rcases List.mem_append.mp hz with w | w
                · exact List.mem_append_left _ (hk4 z w)
                · have : z = q := by simpa using w
                  rw [this]
                  exact List.mem_append_right _ (by simp)
          · have hk : q.1 ∈ came'.map Prod.fst := by
              cases e : valA came' q.1 with
              | none => rw [e] at b1; cases b1
              | some v => exact List.mem_map.mpr ⟨_, valA_mem e, rfl⟩
            with_reducible repeat (first | refine ws_next ?_)
            refine ⟨came', _, rfl, hw4, hc4, hs4, hF4, hMet4, hcl4, el4, fun z hz => ?_⟩
            rw [List.take_succ, eq] at hz
            rcases List.mem_append.mp hz with w | w
            · exact hk4 z w
            · have : z = q := by simpa using w
              rw [this]
              exact hk
        · rintro γ ρ4 ⟨came', v6, rfl, hw4, hc4, hs4, hF4, hMet4, hcl4, el4, hk4⟩
          rw [List.length_map, List.length_map, List.take_length] at hk4
          have hcn4 := hF4.names hT
          have hWl4 : (Wt M name came').length = came'.length + 1 := by simp [Wt]
          have hpl := (List.getElem?_eq_some_iff.mp el4).1
          refine ws_aug rfl ?_
          repeat (first | with_reducible refine we_int ?_ | refine ⟨_, (rfl : AB.A.d (D.int _) = _), ?_⟩)
          refine ⟨m - 1, by omega, p + 1, came', _, rfl, hw4, hc4, hs4, hF4, hMet4, fun j l' hj e r' hr' => ?_, hpl, by omega⟩
          rcases Nat.lt_or_ge j p with z | z
          · exact hcl4 j l' z e r' hr'
          · have : j = p := by omega
            rw [this, el4] at e
            cases e
            rw [hsr] at hr'
            obtain ⟨q, hq, rfl⟩ := List.mem_map.mp hr'
            exact hk4 q hq
      · have b' : ¬ p < (Wt M name came).length := by
          have := of_decide_eq_false b
          omega
        with_reducible repeat (first | refine ws_ret ?_ | refine we_non ?_)
        refine ⟨_, fin hs3 hc3, kN came hF hMet fun l hl r hr => ?_⟩
        have : ∃ j : Nat, (Wt M name came)[j]? = some l := by
          rcases hl with rfl | ⟨q, hq, hv⟩
          · exact ⟨0, rfl⟩
          · obtain ⟨j, hj, e⟩ := List.mem_iff_getElem.mp hq
            refine ⟨j + 1, ?_⟩
            unfold Wt
            rw [List.getElem?_cons_succ, List.getElem?_map, List.getElem?_eq_getElem hj, e]
            show some ((valA M q.1).getD Str.empty) = _
            rw [hv]
            rfl
        obtain ⟨j, ej⟩ := this
        exact hcl j l (by have := (List.getElem?_eq_some_iff.mp ej).1; omega) ej r hr
end
end K82
set_option Elab.async false
set_option linter.all false
set_option maxRecDepth 100000
set_option maxHeartbeats 4000000
/-! row_links, plain: a free name's path is turned, name by name. -/
namespace K82
open PySem PySem.Spec PyProof.Rows L2 Evl HB AB KX
theorem _root_.KN.nodup_at {α : Type} {l : List α} (nd : l.Nodup) {i j : Nat} {x : α} (h1 : l[i]? = some x) (h2 : l[j]? = some x) : i = j := by
  obtain ⟨hi, ei⟩ := List.getElem?_eq_some_iff.mp h1
  obtain ⟨hj, ej⟩ := List.getElem?_eq_some_iff.mp h2
  rcases Nat.lt_trichotomy i j with c | c | c
  · exact absurd (ei.trans ej.symm) ((List.pairwise_iff_getElem.mp nd) i j hi hj c)
  · exact c
  · exact absurd (ej.trans ei.symm) ((List.pairwise_iff_getElem.mp nd) j i hj hi c)
theorem putA_nd {α : Type} {l : List (Str × α)} {x : Str} {v : α} (h : (l.map Prod.fst).Nodup) : ((putA l x v).map Prod.fst).Nodup := by
  unfold putA
  split
  · have : (l.map fun kv => if kv.1 = x then (kv.1, v) else kv).map Prod.fst = l.map Prod.fst := by
      rw [List.map_map]
      apply List.map_congr_left
      intro p _
      show (if p.1 = x then (p.1, v) else p).1 = p.1
      split <;> rfl
    rw [this]
    exact h
  · rename_i c
    rw [List.map_append, List.nodup_append]
    refine ⟨h, by simp, fun a ha b hb z => ?_⟩
    simp at hb
    rw [z, hb] at ha
    obtain ⟨p, hp, e⟩ := List.mem_map.mp ha
    exact c (List.any_eq_true.mpr ⟨p, hp, decide_eq_true e⟩)
/-- a matching: each name taken (right) with its partner ahead (left) -/
structure Matched (S : Str → Str → Prop) (M : List (Str × Str)) : Prop where
  nd : (M.map Prod.fst).Nodup
  inj : PF.InjBut M none
  edge : ∀ x l, valA M x = some l → S l x
/-- what failed searches leave behind -/
structure Closed (S : Str → Str → Prop) (M : List (Str × Str)) (L R : Str → Prop) : Prop where
  out : ∀ l r, L l → S l r → R r
  par : ∀ r, R r → ∃ l, valA M r = some l ∧ L l
/-- with the names of D done -/
structure Links (S : Str → Str → Prop) (D : List Str) (M : List (Str × Str)) : Prop where
  m : Matched S M
  ran : ∀ r l, valA M r = some l → l ∈ D
  cl : ∃ L R : Str → Prop, Closed S M L R ∧ ∀ x, x ∈ D → (∃ r, valA M r = some x) ∨ L x
theorem Matched.inj' {S : Str → Str → Prop} {M : List (Str × Str)} (h : Matched S M) {x y l : Str} (ex : valA M x = some l) (ey : valA M y = some l) : x = y := h.inj x y l (fun z => by cases z) (fun z => by cases z) ex ey
structure Turn (S : Str → Str → Prop) (D : List Str) (M cF : List (Str × Str)) (k : Nat) (p : Str × Str) (M' : List (Str × Str)) : Prop where
  at_ : cF[k]? = some p
  nd : (M'.map Prod.fst).Nodup
  inj : PF.InjBut M' (some p.1)
  edge : ∀ x l, valA M' x = some l → S l x
  same : ∀ x, (∀ (j : Nat) (q : Str × Str), k < j → cF[j]? = some q → q.1 ≠ x) → valA M' x = valA M x
  keep : ∀ x l, valA M x = some l → ∃ y, y ≠ p.1 ∧ valA M' y = some l
  ran : ∀ x l, valA M' x = some l → l ∈ D
  clean : ∀ L R, Closed S M L R → ¬ R p.1 ∧ ∀ x, R x → valA M' x = valA M x
section
variable {S : Str → Str → Prop} {D : List Str} {M M' cF came : List (Str × Str)} {k : Nat} {p : Str × Str} {name f l : Str}
theorem Turn.start (h : Links S D M) (hf : valA M f = none) : Turn S D M (came ++ [(f, l)]) came.length (f, l) M := by
  refine ⟨by simp, h.m.nd, fun x y l' _ _ ex ey => h.m.inj' ex ey, h.m.edge, fun x _ => rfl, fun x l' e => ⟨x, fun z => ?_, e⟩, h.ran, fun L R hc => ⟨fun hr => ?_, fun _ _ => rfl⟩⟩
  · have z' : x = f := z
    rw [z', hf] at e
    cases e
  · obtain ⟨l', e, _⟩ := hc.par _ hr
    have e' : valA M f = some l' := e
    rw [hf] at e'
    cases e'
theorem Found.key (h : Found S M name cF) {i j : Nat} {q r : Str × Str} (e1 : cF[i]? = some q) (e2 : cF[j]? = some r) (e : q.1 = r.1) : i = j := by
  have nd := h.nd
  have h1 : (cF.map Prod.fst)[i]? = some q.1 := by rw [List.getElem?_map, e1]; rfl
  have h2 : (cF.map Prod.fst)[j]? = some q.1 := by rw [List.getElem?_map, e2, e]; rfl
  exact KN.nodup_at nd h1 h2
theorem Turn.self (h : Turn S D M cF k p M') (hF : Found S M name cF) {j : Nat} {q : Str × Str} (hj : j ≤ k) (e : cF[j]? = some q) : valA M' q.1 = valA M q.1 :=
  h.same _ fun i r hi er z => by
    have := hF.key er e z
    omega
theorem Turn.next (hL : Links S D M) (hF : Found S M name cF) (h : Turn S D M cF k p M') (hl : p.2 ≠ name) :
    ∃ (j : Nat) (q : Str × Str), j < k ∧ valA M' q.1 = some p.2 ∧ (∀ x, valA M' x = some p.2 → x = q.1) ∧ Turn S D M cF j q (putA M' p.1 p.2) := by
  obtain ⟨he, hb⟩ := hF.by_ k p h.at_
  obtain ⟨j, q, hj, eq, hq⟩ := hb.resolve_left hl
  have eM : valA M' q.1 = some p.2 := by
    rw [h.self hF (Nat.le_of_lt hj) eq]
    exact hq
  have hpq : p.1 ≠ q.1 := fun z => by
    have := hF.key h.at_ eq z
    omega
  have uq : ∀ x, valA M' x = some p.2 → x = q.1 := fun x ex => by
    by_cases c : x = p.1
    · rw [c, h.self hF (Nat.le_refl _) h.at_] at ex
      exact absurd (hL.m.inj' ex hq) hpq
    · exact h.inj x q.1 p.2 (fun z => c (Option.some.inj z).symm) (fun z => hpq (Option.some.inj z)) ex eM
  refine ⟨j, q, hj, eM, uq, eq, putA_nd h.nd, PF.flip h.inj hpq eM, fun x l e => ?_, fun x hx => ?_, fun x l e => ?_, fun x l e => ?_, fun L R hc => ⟨fun hr => ?_, fun x hx => ?_⟩⟩
  · rw [PF.val_put] at e
    split at e
    · rename_i c
      cases e
      rw [c]
      exact he
    · exact h.edge x l e
  · rw [PF.val_put, if_neg (fun c => hx k p hj h.at_ c.symm)]
    exact h.same x fun i r hi er => hx i r (by omega) er
  · by_cases c : l = p.2
    · exact ⟨p.1, hpq, by rw [PF.val_put, if_pos rfl, c]⟩
    · obtain ⟨y, hy, ey⟩ := h.keep x l e
      refine ⟨y, fun z => ?_, by rw [PF.val_put, if_neg hy]; exact ey⟩
      rw [z, eM] at ey
      exact c (Option.some.inj ey).symm
  · rw [PF.val_put] at e
    split at e
    · cases e
      exact hL.ran _ _ hq
    · exact h.ran x l e
  · obtain ⟨l', e, hl'⟩ := hc.par _ hr
    rw [hq] at e
    cases e
    exact (h.clean L R hc).1 (hc.out _ _ hl' he)
  · obtain ⟨n1, n2⟩ := h.clean L R hc
    rw [PF.val_put, if_neg (fun c => n1 (by rw [← c]; exact hx))]
    exact n2 x hx
theorem Turn.end_ (hL : Links S D M) (hF : Found S M name cF) (h : Turn S D M cF k p M') (hl : p.2 = name) (hn : name ∉ D) : Links S (D ++ [name]) (putA M' p.1 p.2) := by
  obtain ⟨he, _⟩ := hF.by_ k p h.at_
  refine ⟨⟨putA_nd h.nd, PF.flip_end h.inj fun x _ e => hn (by rw [← hl]; exact h.ran x _ e), fun x l e => ?_⟩, fun x l e => ?_, ?_⟩
  · rw [PF.val_put] at e
    split at e
    · rename_i c
      cases e
      rw [c]
      exact he
    · exact h.edge x l e
  · rw [PF.val_put] at e
    split at e
    · cases e
      rw [hl]
      exact List.mem_append_right _ (by simp)
    · exact List.mem_append_left _ (h.ran x l e)
  · obtain ⟨L, R, hc, ha⟩ := hL.cl
    obtain ⟨n1, n2⟩ := h.clean L R hc
    have n3 : ∀ x, R x → valA (putA M' p.1 p.2) x = valA M x := fun x hx => by
      rw [PF.val_put, if_neg (fun c => n1 (by rw [← c]; exact hx))]
      exact n2 x hx
    refine ⟨L, R, ⟨hc.out, fun r hr => ?_⟩, fun x hx => ?_⟩
    · rw [n3 r hr]
      exact hc.par r hr
    · rcases List.mem_append.mp hx with z | z
      · refine (ha x z).imp (fun ⟨r, er⟩ => ?_) id
        obtain ⟨y, hy, ey⟩ := h.keep r x er
        exact ⟨y, by rw [PF.val_put, if_neg hy]; exact ey⟩
      · rw [List.mem_singleton.mp z]
        exact .inl ⟨p.1, by rw [PF.val_put, if_pos rfl, hl]⟩
theorem Links.fail (hL : Links S D M) (hm : Met M came) (hc : ∀ l, (l = name ∨ ∃ p, p ∈ came ∧ valA M p.1 = some l) → ∀ r, S l r → r ∈ came.map Prod.fst) : Links S (D ++ [name]) M := by
  obtain ⟨L, R, hcl, ha⟩ := hL.cl
  refine ⟨hL.m, fun r l e => List.mem_append_left _ (hL.ran r l e), fun l => L l ∨ l = name ∨ ∃ p, p ∈ came ∧ valA M p.1 = some l, fun r => R r ∨ r ∈ came.map Prod.fst, ⟨fun l r h hr => ?_, fun r h => ?_⟩, fun x hx => ?_⟩
  · rcases h with h | h
    · exact .inl (hcl.out l r h hr)
    · exact .inr (hc l h r hr)
  · rcases h with h | h
    · obtain ⟨l, e, hl⟩ := hcl.par r h
      exact ⟨l, e, .inl hl⟩
    · obtain ⟨p, hp, rfl⟩ := List.mem_map.mp h
      obtain ⟨l, e⟩ := hm p hp
      exact ⟨l, e, .inr (.inr ⟨p, hp, e⟩)⟩
  · rcases List.mem_append.mp hx with z | z
    · exact (ha x z).imp id .inl
    · exact .inr (.inr (.inl (List.mem_singleton.mp z)))
end
end K82
set_option Elab.async false
set_option linter.all false
set_option maxRecDepth 100000
set_option maxHeartbeats 4000000
/-! Rows and open sets, plain: an open set has at most one name of each row; what a greatest matching tells. -/
namespace K82
open PySem PySem.Spec PyProof.Rows L2 Evl HB AB KX
/-- rows: all names, each once, each row a chain -/
structure Cover (names : List Str) (S : Str → Str → Prop) (rs : List (List Str)) : Prop where
  perm : rs.flatten.Perm names
  ne : ∀ r, r ∈ rs → r ≠ []
  ch : ∀ r, r ∈ rs → ∀ (i : Nat) (x y : Str), r[i]? = some x → r[i + 1]? = some y → S x y
structure Anti (names : List Str) (S : Str → Str → Prop) (zs : List Str) : Prop where
  nd : zs.Nodup
  sub : ∀ z, z ∈ zs → z ∈ names
  no : ∀ a b, a ∈ zs → b ∈ zs → ¬ S a b
def Trans (S : Str → Str → Prop) : Prop := ∀ a b c, S a b → S b c → S a c
theorem chain_lt {S : Str → Str → Prop} (tr : Trans S) {r : List Str} (h : ∀ (i : Nat) (x y : Str), r[i]? = some x → r[i + 1]? = some y → S x y) {i : Nat} {x : Str} (ex : r[i]? = some x) : ∀ (d : Nat) (y : Str), r[i + 1 + d]? = some y → S x y
  | 0, y, ey => h i x y ex ey
  | d + 1, y, ey => by
    have hl := (List.getElem?_eq_some_iff.mp ey).1
    have ez : r[i + 1 + d]? = some r[i + 1 + d] := List.getElem?_eq_getElem (by omega)
    exact tr _ _ _ (chain_lt tr h ex d _ ez) (h _ _ _ ez ey)
theorem len_split {α : Type} (p : α → Bool) : ∀ l : List α, (l.filter p).length + (l.filter fun x => !p x).length = l.length
  | [] => rfl
  | x :: l => by
    have := len_split p l
    rw [List.filter_cons, List.filter_cons, List.length_cons]
    cases p x
    · simp only [Bool.not_false, if_true, Bool.false_eq_true, if_false, List.length_cons]; omega
    · simp only [Bool.not_true, if_true, Bool.false_eq_true, if_false, List.length_cons]; omega
theorem one_len {α : Type} {l : List α} (nd : l.Nodup) (h : ∀ a b, a ∈ l → b ∈ l → a = b) : l.length ≤ 1 := by
  match l, nd, h with
  | [], _, _ => exact Nat.zero_le _
  | [_], _, _ => exact Nat.le_refl _
  | a :: b :: l, nd, h =>
    have := h a b (by simp) (by simp)
    rw [this] at nd
    exact absurd nd (by simp)
theorem weak_ {S : Str → Str → Prop} (tr : Trans S) : ∀ {rs : List (List Str)} {zs : List Str}, (∀ r, r ∈ rs → ∀ (i : Nat) (x y : Str), r[i]? = some x → r[i + 1]? = some y → S x y) → zs.Nodup → (∀ z, z ∈ zs → z ∈ rs.flatten) → (∀ a b, a ∈ zs → b ∈ zs → ¬ S a b) → zs.length ≤ rs.length
  | [], zs, _, _, hs, _ => by
    cases zs with
    | nil => exact Nat.le_refl _
    | cons z zs => exact absurd (hs z (by simp)) (by simp)
  | r :: rs, zs, hc, nd, hs, no => by
    have e := len_split (fun z => decide (z ∈ r)) zs
    have h1 : (zs.filter fun z => decide (z ∈ r)).length ≤ 1 := by
      refine one_len (nd.filter _) fun a b ha hb => ?_
      obtain ⟨ha1, ha2⟩ := List.mem_filter.mp ha
      obtain ⟨hb1, hb2⟩ := List.mem_filter.mp hb
      obtain ⟨i, hi, ea⟩ := List.mem_iff_getElem.mp (of_decide_eq_true ha2)
      obtain ⟨j, hj, eb⟩ := List.mem_iff_getElem.mp (of_decide_eq_true hb2)
      have ea' : r[i]? = some a := by rw [List.getElem?_eq_getElem hi, ea]
      have eb' : r[j]? = some b := by rw [List.getElem?_eq_getElem hj, eb]
      rcases Nat.lt_trichotomy i j with c | c | c
      · exact absurd (chain_lt tr (hc r (by simp)) ea' (j - i - 1) b (by rw [show i + 1 + (j - i - 1) = j by omega]; exact eb')) (no a b ha1 hb1)
      · rw [c, eb'] at ea'
        exact (Option.some.inj ea').symm
      · exact absurd (chain_lt tr (hc r (by simp)) eb' (i - j - 1) a (by rw [show j + 1 + (i - j - 1) = i by omega]; exact ea')) (no b a hb1 ha1)
    have h2 := weak_ tr (rs := rs) (zs := zs.filter fun z => !decide (z ∈ r)) (fun q hq => hc q (List.mem_cons_of_mem _ hq)) (nd.filter _) (fun z hz => by
      obtain ⟨hz1, hz2⟩ := List.mem_filter.mp hz
      have := hs z hz1
      rw [List.flatten_cons] at this
      rcases List.mem_append.mp this with w | w
      · simp [w] at hz2
      · exact w) fun a b ha hb => no a b (List.mem_filter.mp ha).1 (List.mem_filter.mp hb).1
    rw [List.length_cons]
    omega
theorem weak {names : List Str} {S : Str → Str → Prop} (tr : Trans S) {rs : List (List Str)} {zs : List Str} (hc : Cover names S rs) (ha : Anti names S zs) : zs.length ≤ rs.length :=
  weak_ tr hc.ch ha.nd (fun z hz => hc.perm.mem_iff.mpr (ha.sub z hz)) ha.no
/-- the most names of an open set, the fewest rows -/
def Best (names : List Str) (S : Str → Str → Prop) (m : Nat) : Prop := (∃ zs, Anti names S zs ∧ zs.length = m) ∧ ∃ rs, Cover names S rs ∧ rs.length = m
theorem Best.one {names : List Str} {S : Str → Str → Prop} (tr : Trans S) {m k : Nat} (h : Best names S m) (h' : Best names S k) : m = k := by
  obtain ⟨⟨z1, a1, e1⟩, r1, c1, f1⟩ := h
  obtain ⟨⟨z2, a2, e2⟩, r2, c2, f2⟩ := h'
  have := weak tr c2 a1
  have := weak tr c1 a2
  omega
/-! ### rows that a matching tells -/
structure RowM (M : List (Str × Str)) (r : List Str) : Prop where
  st : ∃ x, r[0]? = some x ∧ valA M x = none
  ch : ∀ (i : Nat) (x y : Str), r[i]? = some x → r[i + 1]? = some y → valA M y = some x
theorem RowM.same {M : List (Str × Str)} {r q : List Str} (h : RowM M r) (k : RowM M q) : ∀ (i j : Nat) (x : Str), r[i]? = some x → q[j]? = some x → i = j ∧ r[0]? = q[0]?
  | 0, 0, x, e1, e2 => ⟨rfl, e1.trans e2.symm⟩
  | 0, j + 1, x, e1, e2 => by
    obtain ⟨x', e, n⟩ := h.st
    rw [e1] at e
    cases e
    have hl := (List.getElem?_eq_some_iff.mp e2).1
    rw [k.ch j _ x (List.getElem?_eq_getElem (by omega)) e2] at n
    cases n
  | i + 1, 0, x, e1, e2 => by
    obtain ⟨x', e, n⟩ := k.st
    rw [e2] at e
    cases e
    have hl := (List.getElem?_eq_some_iff.mp e1).1
    rw [h.ch i _ x (List.getElem?_eq_getElem (by omega)) e1] at n
    cases n
  | i + 1, j + 1, x, e1, e2 => by
    have hl1 := (List.getElem?_eq_some_iff.mp e1).1
    have hl2 := (List.getElem?_eq_some_iff.mp e2).1
    have f1 : r[i]? = some r[i] := List.getElem?_eq_getElem (by omega)
    have f2 : q[j]? = some q[j] := List.getElem?_eq_getElem (by omega)
    have g1 := h.ch i _ x f1 e1
    have g2 := k.ch j _ x f2 e2
    rw [g1] at g2
    obtain ⟨z1, z2⟩ := h.same k i j r[i] f1 (by rw [f2]; exact g2.symm)
    exact ⟨by omega, z2⟩
theorem RowM.nodup {M : List (Str × Str)} {r : List Str} (h : RowM M r) : r.Nodup := by
  refine List.pairwise_iff_getElem.mpr fun i j hi hj hij e => ?_
  have := (h.same h i j r[i] (List.getElem?_eq_getElem hi) (by rw [List.getElem?_eq_getElem hj, e])).1
  omega
/-- one more at the end -/
theorem RowM.snoc {M : List (Str × Str)} {r : List Str} {x y : Str} (h : RowM M (r ++ [x])) (e : valA M y = some x) : RowM M (r ++ [x] ++ [y]) := by
  obtain ⟨z, ez, nz⟩ := h.st
  have hl := (List.getElem?_eq_some_iff.mp ez).1
  refine ⟨⟨z, by rw [List.getElem?_append_left hl]; exact ez, nz⟩, fun i a b ea eb => ?_⟩
  rcases Nat.lt_trichotomy (i + 1) (r ++ [x]).length with c | c | c
  · rw [List.getElem?_append_left (by omega)] at ea
    rw [List.getElem?_append_left c] at eb
    exact h.ch i a b ea eb
  · have ei : i = r.length := by simp at c; omega
    subst ei
    rw [List.append_assoc, List.getElem?_append_right (Nat.le_refl _)] at ea
    simp at ea
    rw [List.append_assoc, List.getElem?_append_right (by omega)] at eb
    simp at eb
    rw [← ea, ← eb]
    exact e
  · have := (List.getElem?_eq_some_iff.mp eb).1
    simp at this c
    omega
structure RowEnd (M : List (Str × Str)) (r : List Str) : Prop extends RowM M r where
  fin : ∀ x y, r.getLast? = some x → valA M y ≠ some x
theorem perm_of {l m : List Str} (h1 : l.Nodup) (h2 : m.Nodup) (h : ∀ x, x ∈ l ↔ x ∈ m) : l.Perm m := by
  refine List.perm_iff_count.mpr fun a => ?_
  by_cases c : a ∈ l
  · rw [h1.count, h2.count, if_pos c, if_pos ((h a).mp c)]
  · rw [h1.count, h2.count, if_neg c, if_neg (fun z => c ((h a).mpr z))]
/-- the sizes of what is taken and what begins a row -/
theorem starts_len {names : List Str} {M : List (Str × Str)} (nd : names.Nodup) (nk : (M.map Prod.fst).Nodup) (hk : ∀ x, x ∈ M.map Prod.fst → x ∈ names) : (names.filter fun x => !(valA M x).isSome).length + M.length = names.length := by
  have e := len_split (fun x => !(valA M x).isSome) names
  have e2 : (names.filter fun x => !!(valA M x).isSome).Perm (M.map Prod.fst) := by
    refine perm_of (nd.filter _) nk fun x => ?_
    rw [List.mem_filter, Bool.not_not]
    refine ⟨fun ⟨_, h⟩ => ?_, fun h => ⟨hk x h, ?_⟩⟩
    · obtain ⟨v, ev⟩ := Option.isSome_iff_exists.mp h
      exact List.mem_map.mpr ⟨_, valA_mem ev, rfl⟩
    · obtain ⟨p, hp, rfl⟩ := List.mem_map.mp h
      rw [valA_of nk hp]
      rfl
  have := e2.length_eq
  rw [List.length_map] at this
  omega
theorem flat_nodup {M : List (Str × Str)} : ∀ {rs : List (List Str)} , (∀ r, r ∈ rs → RowM M r) → (rs.map fun r => r[0]?).Nodup → rs.flatten.Nodup
  | [], _, _ => by simp
  | r :: rs, h, nd => by
    rw [List.map_cons, List.nodup_cons] at nd
    rw [List.flatten_cons, List.nodup_append]
    refine ⟨(h r (by simp)).nodup, flat_nodup (fun q hq => h q (List.mem_cons_of_mem _ hq)) nd.2, fun a ha b hb z => ?_⟩
    subst z
    obtain ⟨q, hq, hb⟩ := List.mem_flatten.mp hb
    obtain ⟨i, hi, ea⟩ := List.mem_iff_getElem.mp ha
    obtain ⟨j, hj, eb⟩ := List.mem_iff_getElem.mp hb
    have := ((h r (by simp)).same (h q (List.mem_cons_of_mem _ hq)) i j a (by rw [List.getElem?_eq_getElem hi, ea]) (by rw [List.getElem?_eq_getElem hj, eb])).2
    exact nd.1 (List.mem_map.mpr ⟨q, hq, this.symm⟩)
theorem rows_cover {names : List Str} {S : Str → Str → Prop} {M : List (Str × Str)} {rs : List (List Str)} (nd : names.Nodup) (hm : Matched S M) (rank : Str → Nat) (hr : ∀ a b, S a b → rank a < rank b) (hin : ∀ a b, S a b → a ∈ names ∧ b ∈ names)
    (hs : rs.map (fun r => r[0]?) = (names.filter fun x => !(valA M x).isSome).map some) (he : ∀ r, r ∈ rs → RowEnd M r) : Cover names S rs ∧ rs.length + M.length = names.length := by
  have hl : rs.length = (names.filter fun x => !(valA M x).isSome).length := by
    have := congrArg List.length hs
    rw [List.length_map, List.length_map] at this
    exact this
  have hch : ∀ r, r ∈ rs → ∀ (i : Nat) (x y : Str), r[i]? = some x → r[i + 1]? = some y → S x y := fun r hr i x y ex ey => hm.edge _ _ ((he r hr).ch i x y ex ey)
  have hsub : ∀ r, r ∈ rs → ∀ x, x ∈ r → x ∈ names := fun r hr x hx => by
    obtain ⟨i, hi, ex⟩ := List.mem_iff_getElem.mp hx
    have ex' : r[i]? = some x := by rw [List.getElem?_eq_getElem hi, ex]
    cases i with
    | zero =>
      have : r[0]? ∈ rs.map (fun r => r[0]?) := List.mem_map.mpr ⟨r, hr, rfl⟩
      rw [hs, ex'] at this
      obtain ⟨z, hz, e⟩ := List.mem_map.mp this
      cases e
      exact (List.mem_filter.mp hz).1
    | succ i => exact (hin _ _ (hch r hr i _ x (List.getElem?_eq_getElem (by omega)) ex')).2
  have hall : ∀ (n : Nat) (x : Str), rank x < n → x ∈ names → x ∈ rs.flatten := by
    intro n
    induction n with
    | zero => exact fun x h => absurd h (Nat.not_lt_zero _)
    | succ n ih =>
      intro x hx hxn
      cases e : valA M x with
      | none =>
        have : some x ∈ (names.filter fun x => !(valA M x).isSome).map some := List.mem_map.mpr ⟨x, List.mem_filter.mpr ⟨hxn, by rw [e]; rfl⟩, rfl⟩
        rw [← hs] at this
        obtain ⟨r, hr, er⟩ := List.mem_map.mp this
        exact List.mem_flatten.mpr ⟨r, hr, List.mem_of_getElem? er⟩
      | some l =>
        have hS := hm.edge x l e
        have := hr l x hS
        have hlf := ih l (by omega) (hin l x hS).1
        obtain ⟨r, hrs, hlr⟩ := List.mem_flatten.mp hlf
        obtain ⟨i, hi, el⟩ := List.mem_iff_getElem.mp hlr
        have el' : r[i]? = some l := by rw [List.getElem?_eq_getElem hi, el]
        by_cases c : i + 1 < r.length
        · have ey : r[i + 1]? = some r[i + 1] := List.getElem?_eq_getElem c
          have := hm.inj' e ((he r hrs).ch i l _ el' ey)
          rw [this]
          exact List.mem_flatten.mpr ⟨r, hrs, List.getElem_mem c⟩
        · refine absurd e ((he r hrs).fin l x ?_)
          rw [List.getLast?_eq_getElem?, show r.length - 1 = i by omega]
          exact el'
  refine ⟨⟨perm_of (flat_nodup (fun r hr => (he r hr).toRowM) ?_) nd fun x => ⟨fun h => ?_, fun h => hall _ x (Nat.lt_succ_self _) h⟩, fun r hr z => ?_, hch⟩, ?_⟩
  · rw [hs]
    exact List.Pairwise.map some (fun a b (n : a ≠ b) e => n (Option.some.inj e)) (nd.filter _)
  · obtain ⟨r, hr, hx⟩ := List.mem_flatten.mp h
    exact hsub r hr x hx
  · obtain ⟨x, ex, _⟩ := (he r hr).st
    rw [z] at ex
    cases ex
  · rw [hl]
    refine starts_len nd hm.nd fun x hx => ?_
    obtain ⟨p, hp, rfl⟩ := List.mem_map.mp hx
    exact (hin _ _ (hm.edge _ _ (valA_of hm.nd hp))).2
/-! ### the open set that a matching tells -/
theorem anti_of {names : List Str} {S : Str → Str → Prop} {M : List (Str × Str)} {Lf Rt : List Str} (nd : names.Nodup) (hm : Matched S M) (hin : ∀ a b, S a b → a ∈ names ∧ b ∈ names)
    (ndL : Lf.Nodup) (ndR : Rt.Nodup) (hL : ∀ x, x ∈ Lf → x ∈ names) (hs : ∀ x, x ∈ names → (∀ r, valA M r ≠ some x) → x ∈ Lf) (out : ∀ l r, l ∈ Lf → S l r → r ∈ Rt) (par : ∀ r, r ∈ Rt → ∃ l, valA M r = some l ∧ l ∈ Lf) :
    Anti names S (Lf.filter fun x => !decide (x ∈ Rt)) ∧ names.length ≤ (Lf.filter fun x => !decide (x ∈ Rt)).length + M.length := by
  refine ⟨⟨ndL.filter _, fun z hz => hL z (List.mem_filter.mp hz).1, fun a b ha hb hS => ?_⟩, ?_⟩
  · have := out a b (List.mem_filter.mp ha).1 hS
    have h2 := (List.mem_filter.mp hb).2
    simp [this] at h2
  · -- partners of the right side, and the ends of rows, stand on the left
    let g : Str → Str := fun r => (valA M r).getD r
    have hg : ∀ r, r ∈ Rt → valA M r = some (g r) ∧ g r ∈ Lf := fun r hr => by
      obtain ⟨l, e, hl⟩ := par r hr
      have : g r = l := by
        show (valA M r).getD r = l
        rw [e]
        rfl
      rw [this]
      exact ⟨e, hl⟩
    let ends := names.filter fun x => !decide (∃ r ∈ M.map Prod.fst, valA M r = some x)
    have hend : ∀ x, x ∈ ends ↔ x ∈ names ∧ ∀ r, valA M r ≠ some x := fun x => by
      show x ∈ names.filter _ ↔ _
      rw [List.mem_filter]
      refine and_congr_right fun _ => ?_
      rw [Bool.not_eq_true', decide_eq_false_iff_not]
      exact ⟨fun h r e => h ⟨r, List.mem_map.mpr ⟨_, valA_mem e, rfl⟩, e⟩, fun h ⟨r, _, e⟩ => h r e⟩
    have n1 : (ends ++ Rt.map g).Nodup := by
      rw [List.nodup_append]
      refine ⟨nd.filter _, ?_, fun a ha b hb z => ?_⟩
      · rw [List.nodup_iff_pairwise_ne, List.pairwise_map] at *
        refine (List.Pairwise.and_mem.mp ndR).imp fun {a b} ⟨ha, hb, n⟩ e => ?_
        have h1 := (hg a ha).1
        rw [e] at h1
        exact n (hm.inj' h1 (hg b hb).1)
      · obtain ⟨r, hr, rfl⟩ := List.mem_map.mp hb
        rw [z] at ha
        exact ((hend _).mp ha).2 r (hg r hr).1
    have l1 := KN.nodup_len n1 (m := Lf) fun x hx => by
      rcases List.mem_append.mp hx with h | h
      · exact hs x ((hend x).mp h).1 ((hend x).mp h).2
      · obtain ⟨r, hr, rfl⟩ := List.mem_map.mp h
        exact (hg r hr).2
    rw [List.length_append, List.length_map] at l1
    -- the ends of rows are as many as their beginnings
    have l2 : names.length ≤ ends.length + M.length := by
      have e := len_split (fun x => !decide (∃ r ∈ M.map Prod.fst, valA M r = some x)) names
      have : (names.filter fun x => !!decide (∃ r ∈ M.map Prod.fst, valA M r = some x)).length ≤ (M.map Prod.snd).length := KN.nodup_len (nd.filter _) fun x hx => by
        have := (List.mem_filter.mp hx).2
        rw [Bool.not_not, decide_eq_true_eq] at this
        obtain ⟨r, _, er⟩ := this
        exact List.mem_map.mpr ⟨_, valA_mem er, rfl⟩
      rw [List.length_map] at this
      show _ ≤ (names.filter _).length + _
      omega
    have l3 := len_split (fun x => !decide (x ∈ Rt)) Lf
    have l4 : (Lf.filter fun x => !!decide (x ∈ Rt)).length ≤ Rt.length := KN.nodup_len (ndL.filter _) fun x hx => by
      have := (List.mem_filter.mp hx).2
      rw [Bool.not_not, decide_eq_true_eq] at this
      exact this
    omega
theorem best_of {names : List Str} {S : Str → Str → Prop} (tr : Trans S) {zs : List Str} {rs : List (List Str)} {n : Nat} (ha : Anti names S zs) (hc : Cover names S rs) (h1 : names.length ≤ zs.length + n) (h2 : rs.length + n = names.length) : zs.length = names.length - n ∧ rs.length = names.length - n ∧ Best names S (names.length - n) := by
  have := weak tr hc ha
  have e1 : zs.length = names.length - n := by omega
  have e2 : rs.length = names.length - n := by omega
  exact ⟨e1, e2, ⟨zs, ha, e1⟩, rs, hc, e2⟩
theorem Cover.to_ {names names' : List Str} {S : Str → Str → Prop} {rs : List (List Str)} (h : Cover names S rs) (p : names.Perm names') : Cover names' S rs := ⟨h.perm.trans p, h.ne, h.ch⟩
theorem Cover.imp {names : List Str} {S S' : Str → Str → Prop} {rs : List (List Str)} (h : Cover names S rs) (e : ∀ a b, S a b → S' a b) : Cover names S' rs := ⟨h.perm, h.ne, fun r hr i x y ex ey => e _ _ (h.ch r hr i x y ex ey)⟩
theorem Cover.perm_ {names : List Str} {S : Str → Str → Prop} {rs rs' : List (List Str)} (h : Cover names S rs) (p : rs'.Perm rs) : Cover names S rs' :=
  ⟨p.flatten.trans h.perm, fun r hr => h.ne r (p.mem_iff.mp hr), fun r hr => h.ch r (p.mem_iff.mp hr)⟩
theorem Anti.perm_ {names : List Str} {S : Str → Str → Prop} {zs zs' : List Str} (h : Anti names S zs) (p : zs'.Perm zs) : Anti names S zs' :=
  ⟨p.nodup_iff.mpr h.nd, fun z hz => h.sub z (p.mem_iff.mp hz), fun a b ha hb => h.no a b (p.mem_iff.mp ha) (p.mem_iff.mp hb)⟩
/-- a matching with its failed searches has an open set as great as it lets -/
theorem links_anti {names D : List Str} {S : Str → Str → Prop} {M : List (Str × Str)} (nd : names.Nodup) (hin : ∀ a b, S a b → a ∈ names ∧ b ∈ names) (h : Links S D M) (hD : ∀ x, x ∈ names → x ∈ D) : ∃ zs, Anti names S zs ∧ names.length ≤ zs.length + M.length := by
  obtain ⟨L, R, hc, ha⟩ := h.cl
  classical
  obtain ⟨a, b⟩ := anti_of (Lf := names.filter fun x => decide (L x)) (Rt := names.filter fun x => decide (R x)) nd h.m hin (nd.filter _) (nd.filter _) (fun x hx => (List.mem_filter.mp hx).1) (fun x hx hn => List.mem_filter.mpr ⟨hx, decide_eq_true ((ha x (hD x hx)).resolve_left fun ⟨r, e⟩ => hn r e)⟩)
    (fun l r hl hS => List.mem_filter.mpr ⟨(hin l r hS).2, decide_eq_true (hc.out l r (of_decide_eq_true (List.mem_filter.mp hl).2) hS)⟩) (fun r hr => by
      obtain ⟨l, e, hl⟩ := hc.par r (of_decide_eq_true (List.mem_filter.mp hr).2)
      exact ⟨l, e, List.mem_filter.mpr ⟨(hin _ _ (h.m.edge r l e)).1, decide_eq_true hl⟩⟩)
  exact ⟨_, a, b⟩
/-- from each beginning a row goes on to its end -/
theorem row_ex {names : List Str} {M : List (Str × Str)} (hk : ∀ x l, valA M x = some l → x ∈ names) : ∀ (n : Nat) (r : List Str) (x : Str), RowM M (r ++ [x]) → (∀ z, z ∈ r ++ [x] → z ∈ names) → names.length ≤ n + r.length → ∃ r', RowEnd M r' ∧ r'[0]? = (r ++ [x])[0]?
  | 0, r, x, h, hs, hn => by
    have := KN.nodup_len h.nodup hs
    rw [List.length_append, List.length_singleton] at this
    omega
  | n + 1, r, x, h, hs, hn => by
    by_cases c : ∃ y, valA M y = some x
    · obtain ⟨y, ey⟩ := c
      obtain ⟨r', h1, h2⟩ := row_ex hk n (r ++ [x]) y (h.snoc ey) (fun z hz => by
        rcases List.mem_append.mp hz with w | w
        · exact hs z w
        · rw [List.mem_singleton.mp w]
          exact hk y x ey) (by rw [List.length_append, List.length_singleton]; omega)
      exact ⟨r', h1, h2.trans (by rw [List.getElem?_append_left (by simp)])⟩
    · refine ⟨r ++ [x], ⟨h, fun a b ea e => ?_⟩, rfl⟩
      rw [List.getLast?_append, List.getLast?_singleton] at ea
      cases ea
      exact c ⟨b, e⟩
theorem rows_ex {names : List Str} {M : List (Str × Str)} (hk : ∀ x l, valA M x = some l → x ∈ names) : ∀ st : List Str, (∀ x, x ∈ st → x ∈ names ∧ valA M x = none) → ∃ rs : List (List Str), rs.map (fun r => r[0]?) = st.map some ∧ ∀ r, r ∈ rs → RowEnd M r
  | [], _ => ⟨[], rfl, fun r hr => by simp at hr⟩
  | x :: st, h => by
    obtain ⟨rs, e, hr⟩ := rows_ex hk st fun y hy => h y (List.mem_cons_of_mem _ hy)
    obtain ⟨r', h1, h2⟩ := row_ex hk names.length [] x ⟨⟨x, rfl, (h x List.mem_cons_self).2⟩, fun i a b ea eb => by simp at eb⟩ (fun z hz => by
      have : z = x := by simpa using hz
      rw [this]
      exact (h x List.mem_cons_self).1) (by simp)
    refine ⟨r' :: rs, by rw [List.map_cons, List.map_cons, e, h2]; rfl, fun r hr' => ?_⟩
    rcases List.mem_cons.mp hr' with z | z
    · rw [z]
      exact h1
    · exact hr r z
/-- an open set as great as a full matching lets is a greatest one -/
theorem anti_best {names : List Str} {S : Str → Str → Prop} {M : List (Str × Str)} {zs : List Str} (tr : Trans S) (nd : names.Nodup) (hin : ∀ a b, S a b → a ∈ names ∧ b ∈ names) (rank : Str → Nat) (hr : ∀ a b, S a b → rank a < rank b) (hm : Matched S M) (ha : Anti names S zs) (hz : names.length ≤ zs.length + M.length) : zs.length = names.length - M.length ∧ Best names S zs.length := by
  obtain ⟨rs, e, he⟩ := rows_ex (names := names) (M := M) (fun x l e => (hin _ _ (hm.edge x l e)).2) (names.filter fun x => !(valA M x).isSome) fun x hx => ⟨(List.mem_filter.mp hx).1, by
    have := (List.mem_filter.mp hx).2
    cases q : valA M x with
    | none => rfl
    | some v => rw [q] at this; cases this⟩
  obtain ⟨hc, hl⟩ := rows_cover nd hm rank hr hin e he
  have hb := best_of tr ha hc hz hl
  exact ⟨hb.1, by rw [hb.1]; exact hb.2.2⟩
/-! ### what is come to from the ends of rows -/
structure Reach (names : List Str) (S : Str → Str → Prop) (M : List (Str × Str)) (L0 : Str → Prop) (starts Lk Rk op : List Str) : Prop where
  ndL : Lk.Nodup
  ndR : Rk.Nodup
  hL : ∀ x, x ∈ Lk → L0 x ∧ x ∈ names
  hR : ∀ r, r ∈ Rk → ∃ l, valA M r = some l ∧ l ∈ Lk
  st : ∀ x, x ∈ starts → x ∈ Lk
  cl : ∀ l, l ∈ Lk → l ∈ op ∨ ∀ r, S l r → r ∈ Rk
section
variable {names : List Str} {S : Str → Str → Prop} {M : List (Str × Str)} {L0 : Str → Prop} {starts Lk Rk op op' : List Str}
theorem Reach.start (nd : starts.Nodup) (h : ∀ x, x ∈ starts → L0 x ∧ x ∈ names) : Reach names S M L0 starts starts [] starts :=
  ⟨nd, by simp, h, fun r hr => by simp at hr, fun x hx => hx, fun l hl => .inl hl⟩
theorem Reach.sub (h : Reach names S M L0 starts Lk Rk op) (e : ∀ l, l ∈ op → l ∈ op') : Reach names S M L0 starts Lk Rk op' := ⟨h.ndL, h.ndR, h.hL, h.hR, h.st, fun l hl => (h.cl l hl).imp (e l) id⟩
theorem Reach.shut (h : Reach names S M L0 starts Lk Rk op) (e : ∀ l, l ∈ op → l ∈ op' ∨ ∀ r, S l r → r ∈ Rk) : Reach names S M L0 starts Lk Rk op' := ⟨h.ndL, h.ndR, h.hL, h.hR, h.st, fun l hl => (h.cl l hl).elim (e l) .inr⟩
theorem Reach.add (h : Reach names S M L0 starts Lk Rk op) {r l : Str} (hr : r ∉ Rk) (hl : valA M r = some l) (h0 : L0 l) (hn : l ∈ names) (hop : ∀ z, z ∈ op → z ∈ op') (hlo : l ∈ op') : Reach names S M L0 starts (ins Lk l) (Rk ++ [r]) op' := by
  refine ⟨ins_nd h.ndL, ?_, fun x hx => ?_, fun q hq => ?_, fun x hx => mem_ins.mpr (.inl (h.st x hx)), fun z hz => ?_⟩
  · rw [List.nodup_append]
    refine ⟨h.ndR, by simp, fun a ha b hb z => ?_⟩
    rw [z, List.mem_singleton.mp hb] at ha
    exact hr ha
  · rcases mem_ins.mp hx with z | z
    · exact h.hL x z
    · rw [z]
      exact ⟨h0, hn⟩
  · rcases List.mem_append.mp hq with z | z
    · obtain ⟨l', e, hl'⟩ := h.hR q z
      exact ⟨l', e, mem_ins.mpr (.inl hl')⟩
    · rw [List.mem_singleton.mp z]
      exact ⟨l, hl, mem_ins.mpr (.inr rfl)⟩
  · rcases mem_ins.mp hz with w | w
    · exact (h.cl z w).imp (hop z) fun k q hq => List.mem_append_left _ (k q hq)
    · rw [w]
      exact .inl hlo
theorem Reach.fin (h : Reach names S M L0 starts Lk Rk []) (nd : names.Nodup) (hm : Matched S M) (hin : ∀ a b, S a b → a ∈ names ∧ b ∈ names) (hs : ∀ x, x ∈ names → (∀ r, valA M r ≠ some x) → x ∈ starts) :
    Anti names S (Lk.filter fun x => !decide (x ∈ Rk)) ∧ names.length ≤ (Lk.filter fun x => !decide (x ∈ Rk)).length + M.length :=
  anti_of nd hm hin h.ndL h.ndR (fun x hx => (h.hL x hx).2) (fun x hx hn => h.st x (hs x hx hn)) (fun l r hl hS => (h.cl l hl).elim (fun z => by simp at z) fun k => k r hS) h.hR
end
/-! ### strictly ascending -/
theorem asc_of {α : Type} {lt : α → α → Bool} (tri : ∀ x y, lt x y = false → lt y x = false → x = y) : ∀ {l : List α}, SrtO.Srtd lt l → l.Nodup → ascL lt l = true := fun {l} hs nd => by
  refine ascL_iff.mpr fun j x y ex ey => ?_
  obtain ⟨hi, e1⟩ := List.getElem?_eq_some_iff.mp ex
  obtain ⟨hj, e2⟩ := List.getElem?_eq_some_iff.mp ey
  have h := (List.pairwise_iff_getElem.mp hs) j (j + 1) hi hj (Nat.lt_succ_self _)
  rw [e1, e2] at h
  cases c : lt x y with
  | true => rfl
  | false =>
    have := tri x y c h
    rw [this] at ex
    have := KN.nodup_at nd ex ey
    omega
theorem tri_str : ∀ x y : Str, ltStr x y = false → ltStr y x = false → x = y := fun x y h k => str_tri (of_decide_eq_false h) (of_decide_eq_false k)
end K82
set_option Elab.async false
set_option linter.all false
set_option maxRecDepth 100000
set_option maxHeartbeats 4000000
namespace K82
open PySem PySem.Spec PyProof.Rows L2 Evl HB AB KX
structure Txt3 (K : PySem.W.Frag) (mg : Str → Option Value) extends Txt2 K mg where
  dfreed_by : Fd K mg "freed_by" sfreed_by ["table", "came", "name", "taken"]
section
variable {P : Program} {w : World} {K : PySem.W.Frag} {mg : Str → Option Value} {base : Heap}
/-! ### row_links -/
abbrev srow_links : Stmt := topS 12
theorem scrow_links : FnScope ["table", "taken", "name", "came", "free", "ahead", "behind", "other", "link"] ["table"] (defScope srow_links) := ⟨rfl, rfl, rfl, by decide +kernel, rfl, by decide +kernel, by decide +kernel⟩
def strD (M : List (Str × Str)) : D := .dic (M.map fun p => (Sum.inr p.1 : Key)) (M.map fun p => D.str p.2)
def FLinks (xs : List AB.A) (ρ : Sto) (R : QA) : Prop := ∃ names rows, xs = [.d (tabD rows)] ∧ TabFit names rows ∧ (rows.map Prod.fst).Perm names ∧ names.Nodup ∧ ∀ M, Links (SR rows) (rows.map Prod.fst) M → R (.d (strD M)) ρ
/-- the names whose partner is v -/
def bh (l : List (Str × Str)) (v : Str) : List Str := (l.filter fun p => decide (p.2 = v)).map Prod.fst
theorem behind_eq (l : List (Str × Str)) (v : Str) {n : Nat} (hn : n = l.length) : (List.range n).filterMap (fun i => (l[i]?).bind fun r => if r.2 = v then some (D.str r.1) else none) = (bh l v).map D.str := by
  rw [hn, KN.range_fm l (fun r => if r.2 = v then some (D.str r.1) else none) l.length (Nat.le_refl _), List.take_length]
  have := KN.fm_filter (fun r : Str × Str => decide (r.2 = v)) (fun r => D.str r.1) l
  simp only [decide_eq_true_eq] at this
  rw [this]
  unfold bh
  rw [List.map_map]
  rfl
theorem bh_mem {l : List (Str × Str)} (nd : (l.map Prod.fst).Nodup) {v x : Str} : x ∈ bh l v ↔ valA l x = some v := by
  unfold bh
  rw [List.mem_map]
  constructor
  · rintro ⟨p, hp, rfl⟩
    obtain ⟨h1, h2⟩ := List.mem_filter.mp hp
    rw [← of_decide_eq_true h2]
    exact valA_of nd h1
  · intro h
    exact ⟨(x, v), List.mem_filter.mpr ⟨valA_mem h, decide_eq_true rfl⟩, rfl⟩
theorem strK_zip : ∀ M : List (Str × Str), strK M = (M.map fun p => (Sum.inr p.1 : Key)).zip ((M.map fun p => D.str p.2).map AB.A.d)
  | [] => rfl
  | p :: M => by
    show ((Sum.inr p.1 : Key), AB.A.d (.str p.2)) :: strK M = _
    rw [strK_zip M]
    rfl
theorem links_nil {S : Str → Str → Prop} : Links S [] [] := ⟨⟨by simp, fun x y l _ _ e => by simp [valA] at e, fun x l e => by simp [valA] at e⟩, fun r l e => by simp [valA] at e, fun _ => False, fun _ => False, ⟨fun _ _ h => h.elim, fun _ h => h.elim⟩, fun x h => by simp at h⟩
theorem FFree.mono {xs : List AB.A} {ρ : Sto} {R R' : QA} (h : FFree xs ρ R) (k : ∀ x ρ', R x ρ' → R' x ρ') : FFree xs ρ R' := by
  obtain ⟨names, rows, c, name, tk, M, h1, h2, h3, h4, h5, h6, h7, h8, h9⟩ := h
  exact ⟨names, rows, c, name, tk, M, h1, h2, h3, h4, h5, h6, h7, fun a b c d => k _ _ (h8 a b c d), fun a b c d e f => k _ _ (h9 a b c d e f)⟩
theorem ok_links {f : Addr} {fd : FuncData} (F : Fun K "row_links" "row_links" srow_links f fd) (T : Txt3 K mg) : FnOk P w K mg base CX0 2 f fd ["table"] (spA FLinks) := by
  have Gfreed_by : FnOk P w K mg base CX0 1 T.dfreed_by.f T.dfreed_by.fd ["table", "came", "name", "taken"] (spA FFree) := ok_free T.dfreed_by.F T.toTz
  refine F.ok scrow_links (spA_len fun xs ρ R h => ?_) (fun cdv Ar outer s H vs Q E hr h => ?_)
  · obtain ⟨_, _, rfl, _⟩ := h
    rfl
  · have hu : _ + 1 < cLine := hu_of hr
    refine ⟨_, (pss_cons (ps_set (i := 1) scrow_links.nd rfl (Or.inl rfl) pe_dnewK)
  (pss_cons (ps_for PassesOwn.never rfl (pi_keys (pv 0)) (pg_name (i := 2) scrow_links.nd rfl (Or.inl rfl))
  (pss_cons (ps_set (i := 3) scrow_links.nd rfl (Or.inl rfl) pe_dnewK)
  (pss_cons (ps_set (i := 4) scrow_links.nd rfl (Or.inl rfl) (pe_call Gfreed_by (hr.mono (by first | decide | omega)) rfl T.dfreed_by.g T.dfreed_by.k T.dfreed_by.b .nil pass0 (pa_cons (pv 0) (pa_cons (pv 3) (pa_cons (pv 2) (pa_cons (pv 1) pa_nil))))))
  (pss_one (ps_while PassesOwn.never (pt_cmp (pc_notN (pv 4))) (pss_cons (ps_set (i := 5) scrow_links.nd rfl (Or.inr rfl) (pe_dget hu (pv 3) (pv 4) (fun _ _ => rfl)))
  (pss_cons (ps_lock (ps_setLc (g := (gTup K 2 (gCons (gName 7) (gCons (gName 8) gNil)))) (own := [("other", 7), ("link", 8)]) (i := 6) rfl scrow_links.nd rfl rfl (sw_true rfl rfl rfl (by decide +kernel)) (pi_items (pv 1)) (blkOk_by (N := ["table", "taken", "name", "came", "free", "ahead", "behind", "other", "link"]) (sc := defScope srow_links) (by decide +kernel)) (fun _ _ _ _ _ => (pg_tup rfl (pgs_cons (pg_name (i := 7) scrow_links.nd rfl (Or.inl rfl)) (pgs_cons (pg_name (i := 8) scrow_links.nd rfl (Or.inl rfl)) pgs_nil)))) (fun _ _ _ _ _ => (pts_one (pt_cmpR op_eq (pv 8) (pv 5) (nomark _)))) (fun _ _ _ _ _ => (pv 7))))
  (pss_cons (ps_dput hu (pv 1) (pv 4) (pv 5) rfl)
  (pss_one (ps_set (i := 4) scrow_links.nd rfl (Or.inl rfl) (pe_ifExp (PW.pt (pw_and (pt_cmpR op_gt (pe_callB call_len_seq (by rfl) T.z_len bt_len (pa_cons (pv 6) pa_nil)) pe_int (nomark _)) (pw_and1 (pt_cmpR op_ne (pv 5) (pv 2) (nomark _))))) (pe_ix ix_list (pv 6) pe_int (fun _ _ => rfl)) pe_non)))))))))))
  (pss_one (ps_frz (ps_ret (pv 1)))))), body_of h fun ρ xs R hF => ?_⟩
    obtain ⟨names, rows, rfl, hT, hpm, hnn, kK⟩ := hF
    have hnd : (rows.map Prod.fst).Nodup := hpm.nodup_iff.mpr hnn
    have hin : ∀ x, x ∈ rows.map Prod.fst → x ∈ names := fun x hx => hpm.mem_iff.mp hx
    have hlen : ∀ M' : List (Str × Str), (M'.map Prod.fst).Nodup → (∀ x l, valA M' x = some l → SR rows l x) → M'.length ≤ 1000 := fun M' nd ed => by
      have := KN.nodup_len nd (m := names) fun x hx => by
        obtain ⟨z, hz, rfl⟩ := List.mem_map.mp hx
        exact hT.into _ _ (ed _ _ (valA_of nd hz))
      rw [List.length_map] at this
      exact Nat.le_trans this hT.nz
    with_reducible repeat (first | refine ws_seq ?_ | refine ws_asg ?_)
    refine we_dictM fun tk htk => ?_
    with_reducible repeat (first | refine ws_seq ?_ | refine wg_name ?_)
    refine ws_for (wi_keys ?_)
    repeat (first | refine we_var rfl ?_)
    refine ⟨_, _, rfl, ?_⟩
    refine ⟨fun i γ ρ' => ∃ M v2 v3 v4 v5 v6, γ = [some (.d (tabD rows)), some (.m tk), v2, v3, v4, v5, v6, none, none] ∧ ρ' tk = some (.dK (strK M)) ∧ AB.Sub ρ ρ' ∧ Links (SR rows) ((rows.map Prod.fst).take i) M, ?_, fun _ _ _ _ _ => trivial, ?_, ?_⟩
    · exact ⟨[], _, _, _, _, _, rfl, pu_same, (AB.Sub.refl ρ).new htk, links_nil⟩
    · rintro i y γ ρ' ey ⟨M, v2, v3, v4, v5, v6, rfl, htk', hs, hL⟩
      rw [List.getElem?_map, List.getElem?_map] at ey
      obtain ⟨d, ed, rfl⟩ := Option.map_eq_some_iff.mp ey
      obtain ⟨p, ep, rfl⟩ := Option.map_eq_some_iff.mp ed
      have epn : (rows.map Prod.fst)[i]? = some p.1 := by rw [List.getElem?_map, ep]; rfl
      have hpn : p.1 ∈ rows.map Prod.fst := List.mem_of_getElem? epn
      have htake : (rows.map Prod.fst).take (i + 1) = (rows.map Prod.fst).take i ++ [p.1] := by rw [List.take_succ, epn]; rfl
      have hnew : p.1 ∉ (rows.map Prod.fst).take i := fun m => by
        obtain ⟨j, hj, e⟩ := List.mem_iff_getElem.mp m
        rw [List.length_take] at hj
        rw [List.getElem_take] at e
        have := KN.nodup_at hnd (i := i) (j := j) epn (by rw [List.getElem?_eq_getElem (by omega), e])
        omega
      refine wg_name ?_
      with_reducible repeat (first | refine ws_seq ?_ | refine ws_asg ?_)
      refine we_dictM fun c hc0 => ?_
      repeat (first | with_reducible refine ws_seq ?_ | with_reducible refine ws_asg ?_ | with_reducible refine wg_name ?_ | refine we_var rfl ?_ | with_reducible refine wa_cons ?_ | with_reducible refine wa_nil ?_ | with_reducible refine we_call ?_)
      have hct : c ≠ tk := fun z => by rw [z, htk'] at hc0; cases hc0
      have hc0' : ρ c = none := by
        cases e : ρ c with
        | none => rfl
        | some o => rw [hs c o e] at hc0; cases hc0
      refine FFree.mono (R := fun x ρ1 => ∃ (cF : List (Str × Str)) (fr : D) (m : Nat), x = .d fr ∧ ρ1 = pu (pu ρ' c (.dK [])) c (.dK (strK cF)) ∧ ((fr = .non ∧ Links (SR rows) ((rows.map Prod.fst).take i ++ [p.1]) M) ∨ (Found (SR rows) M p.1 cF ∧ ∃ k q, fr = .str q.1 ∧ Turn (SR rows) ((rows.map Prod.fst).take i) M cF k q M ∧ m = k + 1))) ?_ ?_
      · refine ⟨names, rows, c, p.1, tk, M, rfl, hct, hT, hin _ hpn, pu_same, by rw [pu_ne (Ne.symm hct)]; exact htk', fun z hz => hin _ (List.mem_of_mem_take (hL.ran z.1 z.2 (valA_of hL.m.nd hz))), fun came hF hM hC => ?_, fun came f l hF hM hv => ?_⟩
        · exact ⟨came, .non, 0, rfl, rfl, .inl ⟨rfl, hL.fail hM hC⟩⟩
        · exact ⟨_, .str f, _, rfl, rfl, .inr ⟨hF, _, _, rfl, Turn.start hL hv, rfl⟩⟩
      · rintro x ρ1 ⟨cF, fr, m0, rfl, rfl, hst⟩
        rw [pu_pu]
        with_reducible repeat (first | refine wg_name ?_)
        refine ws_while (fun m γ ρ2 => ∃ (M' : List (Str × Str)) (fr : D) (v5 v6 : Option AB.A), γ = [some (.d (tabD rows)), some (.m tk), some (.d (.str p.1)), some (.m c), some (.d fr), v5, v6, none, none] ∧ ρ2 tk = some (.dK (strK M')) ∧ ρ2 c = some (.dK (strK cF)) ∧ AB.Sub ρ ρ2 ∧
          ((fr = .non ∧ Links (SR rows) ((rows.map Prod.fst).take i ++ [p.1]) M') ∨ (Found (SR rows) M p.1 cF ∧ ∃ k q, fr = .str q.1 ∧ Turn (SR rows) ((rows.map Prod.fst).take i) M cF k q M' ∧ m = k + 1))) m0 ?_ ?_
        · exact ⟨M, fr, _, _, rfl, by rw [pu_ne (Ne.symm hct)]; exact htk', pu_same, hs.new hc0', hst⟩
        · rintro m γ ρ2 ⟨M', fr, v5, v6, rfl, htk2, hc2, hs2, hst⟩
          repeat (first | refine we_var rfl ?_ | with_reducible refine wt_B ?_ | refine ⟨_, (rfl : AB.A.d (D.bl _) = _), ?_⟩ | with_reducible refine we_notN ?_)
          refine ⟨fun b => ?_, fun b => ?_⟩
          · rcases hst with ⟨rfl, _⟩ | ⟨hF, k, q, rfl, hU, rfl⟩
            · cases b
            have hq2 : valA cF q.1 = some q.2 := valA_of hF.nd (List.mem_of_getElem? hU.at_)
            with_reducible repeat (first | refine ws_seq ?_ | refine ws_asg ?_)
            refine we_dget ?_
            repeat (first | refine we_var rfl ?_)
            refine ⟨.d (.str q.2), by have := str_get (x := q.1) hc2; rw [hq2] at this; exact this, ?_⟩
            with_reducible repeat (first | refine ws_seq ?_ | refine wg_name ?_)
            refine ws_lock htk2 fun o ws => ?_
            with_reducible repeat (first | refine ws_asg ?_)
            refine we_lcD (wi_itemsM ?_)
            repeat (first | refine we_var rfl ?_)
            refine ⟨tk, o, ws, M'.map fun p => ((Sum.inr p.1 : Key), D.str p.2), rfl, by rw [pu_same, List.map_map]; rfl, ?_⟩
            refine ⟨fun i => (M'[i]?).bind fun r => if r.2 = q.2 then some (.str r.1) else none, fun ρx sb => sb _ _ (by rw [pu_same, List.map_map]; rfl), ?_, ?_, ?_⟩
            · rw [List.length_map, List.length_map]
              have := hlen M' hU.nd hU.edge
              omega
            · rintro j y ρx ey sb
              rw [List.getElem?_map, List.getElem?_map] at ey
              obtain ⟨d, ed, rfl⟩ := Option.map_eq_some_iff.mp ey
              obtain ⟨r, er, rfl⟩ := Option.map_eq_some_iff.mp ed
              refine wgv_ptup rfl (wgsv_cons (wgv_name (by decide) (wgsv_cons (wgv_name (by decide) (wgsv_nil ⟨rfl, ?_⟩)))))
              repeat (first | with_reducible refine we_op ?_ | refine we_var rfl ?_ | with_reducible refine wt_test ?_ | refine ⟨_, (rfl : AB.A.d (D.bl _) = _), ?_⟩ | with_reducible refine o2_eqS ?_)
              refine ⟨rfl, fun b1 => ?_, fun b1 => ?_⟩
              · repeat (first | refine we_var rfl ?_)
                exact ⟨rfl, _, rfl, by show (M'[j]?).bind _ = some (D.str r.1); rw [er]; exact if_pos (of_decide_eq_true b1)⟩
              · show (M'[j]?).bind _ = none
                rw [er]
                exact if_neg (of_decide_eq_false b1)
            · rw [behind_eq M' q.2 (by rw [List.length_map, List.length_map])]
              with_reducible repeat (first | refine wg_name ?_)
              refine ⟨pu_same, ?_⟩
              rw [pu_pu]
              with_reducible repeat (first | refine ws_seq ?_)
              refine ws_dput ?_
              repeat (first | refine we_var rfl ?_)
              refine ⟨_, .inl ⟨tk, _, .inr q.1, rfl, pu_same, rfl, by have := hlen M' hU.nd hU.edge; unfold strK; rw [List.length_map]; omega, rfl⟩, ?_⟩
              rw [strK_put, pu_pu]
              repeat (first | with_reducible refine ws_asg ?_ | with_reducible refine we_op ?_ | refine we_var rfl ?_ | with_reducible refine wa_cons ?_ | with_reducible refine wa_nil ?_ | with_reducible refine we_cb ?_ | with_reducible refine wt_test ?_ | with_reducible refine we_if ?_ | with_reducible refine wt_and ?_)
              refine on_len lsd ?_
              repeat (first | with_reducible refine we_int ?_ | refine ⟨_, (rfl : AB.A.d (D.bl _) = _), ?_⟩ | refine o2_I0 (fun _ => Rep.bl _) ?_)
              have hs4 : AB.Sub ρ (pu ρ2 tk (Mo.dK (strK (putA M' q.1 q.2)))) := hs2.new htk
              have hc4 : (pu ρ2 tk (Mo.dK (strK (putA M' q.1 q.2)))) c = some (.dK (strK cF)) := by rw [pu_ne hct]; exact hc2
              by_cases hl : q.2 = p.1
              · have hE := hU.end_ hL hF hl hnew
                refine ⟨fun b1 => ?_, fun b1 => ?_⟩
                · repeat (first | with_reducible refine we_op ?_ | refine we_var rfl ?_ | with_reducible refine wt_test ?_ | refine ⟨_, (rfl : AB.A.d (D.bl _) = _), ?_⟩ | with_reducible refine o2_neS ?_)
                  refine ⟨fun b2 => ?_, fun b2 => ?_⟩
                  · rw [decide_eq_true hl] at b2
                    cases b2
                  · with_reducible repeat (first | refine wg_name ?_ | refine we_non ?_)
                    exact ⟨0, Nat.succ_pos _, _, .non, _, _, rfl, pu_same, hc4, hs4, .inl ⟨rfl, hE⟩⟩
                · refine ⟨fun b2 => (by cases b2), fun _ => ?_⟩
                  with_reducible repeat (first | refine wg_name ?_ | refine we_non ?_)
                  exact ⟨0, Nat.succ_pos _, _, .non, _, _, rfl, pu_same, hc4, hs4, .inl ⟨rfl, hE⟩⟩
              · obtain ⟨j, r, hj, eM, uq, hU'⟩ := hU.next hL hF hl
                have hr : r.1 ∈ bh M' q.2 := (bh_mem hU.nd).mpr eM
                obtain ⟨x0, l0, e0⟩ : ∃ x0 l0, bh M' q.2 = x0 :: l0 := by
                  cases e : bh M' q.2 with
                  | nil => rw [e] at hr; simp at hr
                  | cons x0 l0 => exact ⟨x0, l0, rfl⟩
                have hx0 : x0 = r.1 := uq x0 ((bh_mem hU.nd).mp (by rw [e0]; simp))
                rw [e0]
                refine ⟨fun b1 => ?_, fun b1 => by simp at b1⟩
                repeat (first | with_reducible refine we_op ?_ | refine we_var rfl ?_ | with_reducible refine wt_test ?_ | refine ⟨_, (rfl : AB.A.d (D.bl _) = _), ?_⟩ | with_reducible refine o2_neS ?_)
                refine ⟨fun b2 => ?_, fun b2 => by rw [decide_eq_false hl] at b2; cases b2⟩
                repeat (first | with_reducible refine we_op ?_ | refine we_var rfl ?_ | with_reducible refine we_int ?_)
                refine o2_ixL lsd (i := ((0 : Nat) : Int)) (atI_nat' rfl) ?_
                with_reducible repeat (first | refine wg_name ?_)
                rw [hx0]
                exact ⟨j + 1, by omega, _, .str r.1, _, _, rfl, pu_same, hc4, hs4, .inr ⟨hF, j, r, rfl, hU', rfl⟩⟩
          · rcases hst with ⟨rfl, hE⟩ | ⟨hF, k, q, rfl, hU, rfl⟩
            · skip
              exact ⟨_, _, _, _, _, _, rfl, htk2, hs2, by rw [htake]; exact hE⟩
            · cases b
    · rintro γ ρ' ⟨M, v2, v3, v4, v5, v6, rfl, htk', hs, hL⟩
      rw [List.length_map, List.length_map, show rows.length = (rows.map Prod.fst).length by rw [List.length_map], List.take_length] at hL
      skip
      refine ws_frz (i := 1) rfl (ks := M.map fun p => (Sum.inr p.1 : Key)) (ds := M.map fun p => D.str p.2) ?_ (by rw [List.length_map, List.length_map]) ?_
      · rw [htk', strK_zip]
      · repeat (first | with_reducible refine ws_ret ?_ | refine we_var rfl ?_)
        exact ⟨_, sub_rm hs htk, kK M hL⟩
end
end K82
set_option Elab.async false
set_option linter.all false
set_option maxRecDepth 100000
set_option maxHeartbeats 4000000
namespace K82
open PySem PySem.Spec PyProof.Rows L2 Evl HB AB KX
structure Txt4 (K : PySem.W.Frag) (mg : Str → Option Value) extends Txt3 K mg where
  drow_links : Fd K mg "row_links" srow_links ["table"]
section
variable {P : Program} {w : World} {K : PySem.W.Frag} {mg : Str → Option Value} {base : Heap}
/-! ### row_list -/
abbrev srow_list : Stmt := topS 13
theorem scrow_list : FnScope ["table", "taken", "name", "following", "rows", "row", "ahead"] ["table", "taken"] (defScope srow_list) := ⟨rfl, rfl, rfl, by decide +kernel, rfl, by decide +kernel, by decide +kernel⟩
def sw (M : List (Str × Str)) : List (Str × Str) := M.map fun p => (p.2, p.1)
theorem sw_nd {S : Str → Str → Prop} {M : List (Str × Str)} (h : Matched S M) : ((sw M).map Prod.fst).Nodup := by
  unfold sw
  rw [List.map_map, List.nodup_iff_pairwise_ne, List.pairwise_map]
  have nd := h.nd
  rw [List.nodup_iff_pairwise_ne, List.pairwise_map] at nd
  refine (List.Pairwise.and_mem.mp nd).imp fun {a b} ⟨ha, hb, n⟩ e => n ?_
  have e' : a.2 = b.2 := e
  exact h.inj' (valA_of h.nd (x := a.1) (v := a.2) ha) (by rw [e']; exact valA_of h.nd (x := b.1) (v := b.2) hb)
theorem sw_val {S : Str → Str → Prop} {M : List (Str × Str)} (h : Matched S M) {x y : Str} : valA (sw M) x = some y ↔ valA M y = some x := by
  constructor
  · intro e
    have := valA_mem e
    unfold sw at this
    obtain ⟨p, hp, ep⟩ := List.mem_map.mp this
    cases ep
    exact valA_of h.nd hp
  · intro e
    exact valA_of (sw_nd h) (List.mem_map.mpr ⟨(y, x), valA_mem e, rfl⟩)
theorem items_str : ∀ r : List (Str × Str), ((r.map fun p => (Sum.inr p.1 : Key)).zip (r.map fun p => D.str p.2)).map (fun p => AB.A.d (.ptup [keyD p.1, p.2])) = r.map fun p => AB.A.d (.ptup [.str p.1, .str p.2])
  | [] => rfl
  | p :: r => congrArg (fun l => AB.A.d (.ptup [.str p.1, .str p.2]) :: l) (items_str r)
theorem strD_get {l : List (Str × Str)} {x : Str} {ρ : Sto} : DGA (.d (strD l)) (.d (.str x)) ρ ((valA l x).map fun v => AB.A.d (.str v)) :=
  .inr (.inl ⟨_, _, .inr x, rfl, rfl, by simp, by rw [← strK_zip, strK_val]⟩)
structure RowsIn (names : List Str) (M : List (Str × Str)) : Prop where
  nd : names.Nodup
  nz : names.length ≤ 1000
  k : ∀ x l, valA M x = some l → x ∈ names
theorem Matched.len {S : Str → Str → Prop} {names : List Str} {M : List (Str × Str)} (h : Matched S M) (hN : RowsIn names M) : M.length ≤ 1000 := by
  have := KN.nodup_len h.nd (m := names) fun x hx => by
    obtain ⟨z, hz, rfl⟩ := List.mem_map.mp hx
    exact hN.k _ _ (valA_of h.nd (x := z.1) (v := z.2) hz)
  rw [List.length_map] at this
  exact Nat.le_trans this hN.nz
def FRows (xs : List AB.A) (ρ : Sto) (R : QA) : Prop := ∃ (S : Str → Str → Prop) (rows : List (Str × List (Str × Int))) (M : List (Str × Str)), xs = [.d (tabD rows), .d (strD M)] ∧ RowsIn (rows.map Prod.fst) M ∧ Matched S M ∧
  ∀ rs : List (List Str), rs.map (fun r => r[0]?) = ((rows.map Prod.fst).filter fun x => !(valA M x).isSome).map some → (∀ r, r ∈ rs → RowEnd M r) → R (.d (.lst (rs.map tupD))) ρ
theorem ok_rows {f : Addr} {fd : FuncData} (F : Fun K "row_list" "row_list" srow_list f fd) (T : Tz mg) : FnOk P w K mg base CX0 1 f fd ["table", "taken"] (spA FRows) := by
  refine F.ok scrow_list (spA_len fun xs ρ R h => ?_) (fun cdv Ar outer s H vs Q E hr h => ?_)
  · obtain ⟨_, _, _, rfl, _⟩ := h
    rfl
  · have hu : _ + 1 < cLine := hu_of hr
    refine ⟨_, (pss_cons (ps_setDc (tg := (gTup K 2 (gCons (gName 2) (gCons (gName 6) gNil)))) (bs := [("name", 2), ("ahead", 6)]) (j := 3) rfl scrow_list.nd rfl rfl (sw_dict rfl rfl rfl (by decide +kernel)) (pi_items (pv 1)) (blkOk_by (N := ["table", "taken", "name", "following", "rows", "row", "ahead"]) (sc := defScope srow_list) (by decide +kernel)) (fun _ _ _ _ _ => (pg_tup rfl (pgs_cons (pg_name (i := 2) scrow_list.nd rfl (Or.inl rfl)) (pgs_cons (pg_name (i := 6) scrow_list.nd rfl (Or.inl rfl)) pgs_nil)))) (fun _ _ _ _ _ => pts_nil) (fun _ _ _ _ _ => (pv 6)) (fun _ _ _ _ _ => (pv 2)))
  (pss_cons (ps_set (i := 4) scrow_list.nd rfl (Or.inl rfl) (pe_lst pa_nil))
  (pss_cons (ps_for PassesOwn.never rfl (pi_keys (pv 0)) (pg_name (i := 2) scrow_list.nd rfl (Or.inl rfl))
  (pss_one (ps_if (pt_cmp (pc_dnotin hu (pv 2) (pv 1))) (pss_cons (ps_set (i := 5) scrow_list.nd rfl (Or.inl rfl) (pe_lst (pa_cons (pv 2) pa_nil)))
  (pss_cons (ps_while PassesOwn.never (pt_cmp (pc_din hu (pe_ix ix_list (pv 5) (pe_un un_neg pe_int) (fun _ _ => rfl)) (pv 3))) (pss_one (ps_expr (pe_bm PySem.F.plainAttrs_list PySem.F.slot_list_append PySem.F.type_list_append mt_append (pv 5) (pa_cons (pe_dget hu (pv 3) (pe_ix ix_list (pv 5) (pe_un un_neg pe_int) (fun _ _ => rfl)) (fun _ _ => rfl)) pa_nil)))))
  (pss_one (ps_expr (pe_bm PySem.F.plainAttrs_list PySem.F.slot_list_append PySem.F.type_list_append mt_append (pv 4) (pa_cons (pe_callTy call_tupleZ (by rfl) T.z_tuple bt_tuple (pa_cons (pv 5) pa_nil)) pa_nil))))))
  pss_nil)))
  (pss_one (ps_ret (pv 4)))))), body_of h fun ρ xs R hF => ?_⟩
    obtain ⟨S, rows, M, rfl, hN, hM, kK⟩ := hF
    with_reducible repeat (first | refine ws_seq ?_ | refine ws_asg ?_)
    refine we_dc (wi_items ?_)
    repeat (first | refine we_var rfl ?_)
    refine ⟨_, _, rfl, by simp, fun fo hfo => ?_⟩
    rw [items_str]
    refine ⟨fun i ρ' => ρ' = pu ρ fo (.dK (strK ((sw M).take i))), rfl, fun _ _ _ _ => trivial, ?_, ?_⟩
    · rintro i y ρ' ey rfl
      rw [List.getElem?_map] at ey
      obtain ⟨p, ep, rfl⟩ := Option.map_eq_some_iff.mp ey
      have es : (sw M)[i]? = some (p.2, p.1) := by unfold sw; rw [List.getElem?_map, ep]; rfl
      have hz := hM.len hN
      have hlt := (List.getElem?_eq_some_iff.mp ep).1
      refine wgv_ptup rfl (wgsv_cons (wgv_name (by decide) (wgsv_cons (wgv_name (by decide) (wgsv_nil (wt_yes ⟨fun _ => ?_, fun z => by cases z⟩))))))
      repeat (first | refine we_var rfl ?_)
      refine ⟨_, .inr p.2, rfl, pu_same, by unfold strK sw; rw [List.length_map, List.length_take]; omega, ?_⟩
      rw [pu_pu, strK_put, putA_end]
      · show _ = pu ρ fo (.dK (strK ((sw M).take (i + 1))))
        rw [List.take_succ, es]
        rfl
      · intro m
        obtain ⟨z, hz2, e2⟩ := List.mem_map.mp m
        obtain ⟨j, hj, ej⟩ := List.mem_iff_getElem.mp hz2
        rw [List.length_take] at hj
        rw [List.getElem_take] at ej
        have h1 : ((sw M).map Prod.fst)[i]? = some p.2 := by rw [List.getElem?_map, es]; rfl
        have h2 : ((sw M).map Prod.fst)[j]? = some p.2 := by rw [List.getElem?_map, List.getElem?_eq_getElem (by omega), ej, ← e2]; rfl
        have := KN.nodup_at (sw_nd hM) h1 h2
        omega
    rintro ρ1 rfl
    rw [List.length_map, show M.length = (sw M).length by unfold sw; rw [List.length_map], List.take_length]
    with_reducible repeat (first | refine ws_seq ?_ | refine ws_asg ?_ | refine wg_name ?_)
    refine we_lstM ?_
    with_reducible repeat (first | refine wa_nil ?_)
    refine ⟨by show 0 ≤ 100000; decide, fun rw_ hrw => ?_⟩
    with_reducible repeat (first | refine ws_seq ?_ | refine wg_name ?_)
    have wf : rw_ ≠ fo := fun z => by rw [z, pu_same] at hrw; cases hrw
    have hrw0 : ρ rw_ = none := by rw [pu_ne wf] at hrw; exact hrw
    refine ws_for (wi_keys ?_)
    repeat (first | refine we_var rfl ?_)
    refine ⟨_, _, rfl, ?_⟩
    refine ⟨fun i γ ρ' => ∃ (rs : List (List Str)) (v2 v5 : Option AB.A), γ = [some (.d (tabD rows)), some (.d (strD M)), v2, some (.m fo), some (.m rw_), v5, none] ∧ ρ' fo = some (.dK (strK (sw M))) ∧ ρ' rw_ = some (.lst ((rs.map tupD).map .d)) ∧ AB.Sub ρ ρ' ∧
      rs.map (fun r => r[0]?) = (((rows.map Prod.fst).take i).filter fun x => !(valA M x).isSome).map some ∧ (∀ r, r ∈ rs → RowEnd M r), ?_, fun _ _ _ _ _ => trivial, ?_, ?_⟩
    · exact ⟨[], _, _, rfl, by rw [pu_ne (Ne.symm wf)]; exact pu_same, pu_same, ((AB.Sub.refl ρ).new hfo).new hrw0, by simp, fun r hr => by simp at hr⟩
    · rintro i y γ ρ' ey ⟨rs, v2, v5, rfl, hf, hr, hs, hst, hre⟩
      rw [List.getElem?_map, List.getElem?_map] at ey
      obtain ⟨d, ed, rfl⟩ := Option.map_eq_some_iff.mp ey
      obtain ⟨p, ep, rfl⟩ := Option.map_eq_some_iff.mp ed
      have epn : (rows.map Prod.fst)[i]? = some p.1 := by rw [List.getElem?_map, ep]; rfl
      have hpn : p.1 ∈ rows.map Prod.fst := List.mem_of_getElem? epn
      have htake : (rows.map Prod.fst).take (i + 1) = (rows.map Prod.fst).take i ++ [p.1] := by rw [List.take_succ, epn]; rfl
      refine wg_name ?_
      refine ws_if (wt_B (we_dnotin ?_))
      repeat (first | refine we_var rfl ?_)
      refine ⟨_, strD_get, ?_⟩
      rw [isSome_map]
      repeat (first | refine ⟨_, (rfl : AB.A.d (D.bl _) = _), ?_⟩)
      refine ⟨fun b => ?_, fun b => ?_⟩
      · have hno : valA M p.1 = none := by
          cases e : valA M p.1 with
          | none => rfl
          | some v => rw [e] at b; cases b
        with_reducible repeat (first | refine ws_seq ?_ | refine ws_asg ?_)
        refine we_lstM ?_
        repeat (first | refine we_var rfl ?_ | with_reducible refine wa_cons ?_ | with_reducible refine wa_nil ?_)
        refine ⟨by show 1 ≤ 100000; decide, fun ra hra => ?_⟩
        with_reducible repeat (first | refine ws_seq ?_ | refine wg_name ?_)
        have raf : ra ≠ fo := fun z => by rw [z, hf] at hra; cases hra
        have rar : ra ≠ rw_ := fun z => by rw [z, hr] at hra; cases hra
        have hra0 : ρ ra = none := by
          cases e : ρ ra with
          | none => rfl
          | some o => rw [hs ra o e] at hra; cases hra
        refine ws_seq (ws_while (fun m γ ρ2 => ∃ (r : List Str) (x : Str), γ = [some (.d (tabD rows)), some (.d (strD M)), some (.d (.str p.1)), some (.m fo), some (.m rw_), some (.m ra), none] ∧ ρ2 ra = some (.lst (((r ++ [x]).map D.str).map .d)) ∧ ρ2 fo = some (.dK (strK (sw M))) ∧ ρ2 rw_ = some (.lst ((rs.map tupD).map .d)) ∧ AB.Sub ρ ρ2 ∧
          RowM M (r ++ [x]) ∧ (r ++ [x])[0]? = some p.1 ∧ m + r.length = rows.length) rows.length ?_ ?_)
        · exact ⟨[], p.1, rfl, pu_same, by rw [pu_ne (Ne.symm raf)]; exact hf, by rw [pu_ne (Ne.symm rar)]; exact hr, hs.new hra0, ⟨⟨p.1, rfl, hno⟩, fun i x y e1 e2 => by simp at e2⟩, rfl, by simp⟩
        · rintro m γ ρ2 ⟨r, x, rfl, h1, h2, h3, h4, h5, h6, h7⟩
          have hsub : (r ++ [x]).length ≤ rows.length := by
            have := KN.nodup_len h5.nodup (m := rows.map Prod.fst) fun z hz => by
              obtain ⟨j, hj, ej⟩ := List.mem_iff_getElem.mp hz
              have ej' : (r ++ [x])[j]? = some z := by rw [List.getElem?_eq_getElem hj, ej]
              cases j with
              | zero =>
                rw [h6] at ej'
                rw [← Option.some.inj ej']
                exact hpn
              | succ j => exact hN.k z _ (h5.ch j _ z (List.getElem?_eq_getElem (by omega)) ej')
            rw [List.length_map] at this
            exact this
          rw [List.length_append, List.length_singleton] at hsub
          have hn1 := hN.nz
          rw [List.length_map] at hn1
          refine wt_B (we_din ?_)
          repeat (first | with_reducible refine we_op ?_ | with_reducible refine we_un ?_ | refine we_var rfl ?_ | with_reducible refine we_int ?_ | with_reducible refine o1_neg ?_)
          refine o2_ixL (z := .d (.str x)) (lsm h1) (by rw [List.map_append, List.map_append]; exact atI_last _ _) ?_
          repeat (first | refine we_var rfl ?_)
          refine ⟨_, str_get h2, ?_⟩
          rw [isSome_map]
          refine ⟨_, rfl, fun b1 => ?_, fun b1 => ?_⟩
          · obtain ⟨y, ey⟩ := Option.isSome_iff_exists.mp b1
            have eM := (sw_val hM).mp ey
            with_reducible repeat (first | refine ws_drop ?_)
            refine we_bm ?_
            repeat (first | refine we_var rfl ?_)
            refine ⟨ty_lst h1, wa_cons (we_dget ?_)⟩
            repeat (first | with_reducible refine we_op ?_ | with_reducible refine we_un ?_ | refine we_var rfl ?_ | with_reducible refine we_int ?_ | with_reducible refine o1_neg ?_)
            refine o2_ixL (z := .d (.str x)) (lsm h1) (by rw [List.map_append, List.map_append]; exact atI_last _ _) ?_
            skip
            refine ⟨.d (.str y), by have := str_get (x := x) h2; rw [ey] at this; exact this, ?_⟩
            with_reducible repeat (first | refine wa_nil ?_)
            refine on_append h1 (by rw [List.length_map, List.length_map, List.length_append, List.length_singleton]; omega) ?_
            refine ⟨m - 1, by omega, r ++ [x], y, rfl, by rw [pu_same]; simp only [List.map_append]; rfl, by rw [pu_ne (Ne.symm raf)]; exact h2, by rw [pu_ne (Ne.symm rar)]; exact h3, h4.new hra0, h5.snoc eM, ?_, by rw [List.length_append, List.length_singleton]; omega⟩
            rw [List.getElem?_append_left (by simp)]
            exact h6
          · have hend : ∀ y, valA M y ≠ some x := fun y e => by
              rw [(sw_val hM).mpr e] at b1
              cases b1
            refine ws_next ?_
            with_reducible repeat (first | refine ws_drop ?_)
            refine we_bm ?_
            repeat (first | refine we_var rfl ?_)
            refine ⟨ty_lst h3, ?_⟩
            repeat (first | refine we_var rfl ?_ | with_reducible refine wa_cons ?_ | with_reducible refine wa_nil ?_ | with_reducible refine we_cb ?_)
            refine on_tuple (lsm h1) ?_
            with_reducible repeat (first | refine wa_nil ?_)
            have hrl : rs.length ≤ rows.length := by
              have := congrArg List.length hst
              rw [List.length_map, List.length_map] at this
              have h9 := List.length_filter_le (fun x => !(valA M x).isSome) ((rows.map Prod.fst).take i)
              rw [List.length_take, List.length_map] at h9
              omega
            refine on_append h3 (by rw [List.length_map, List.length_map]; omega) ?_
            refine ⟨rs ++ [r ++ [x]], _, _, rfl, by rw [pu_ne (Ne.symm wf)]; exact h2, by rw [pu_same]; simp only [List.map_append, List.map_cons, List.map_nil, tupD], h4.new hrw0, ?_, fun q hq => ?_⟩
            · rw [htake, List.filter_append, List.map_append, List.map_append, hst]
              congr 1
              rw [List.filter_cons, hno]
              show [(r ++ [x])[0]?] = [some p.1]
              rw [h6]
            · rcases List.mem_append.mp hq with z | z
              · exact hre q z
              · rw [List.mem_singleton.mp z]
                exact ⟨h5, fun a b ea => by
                  rw [List.getLast?_append, List.getLast?_singleton] at ea
                  cases ea
                  exact hend b⟩
      · with_reducible repeat (first | refine ws_next ?_)
        have hyes : (valA M p.1).isSome = true := by
          cases e : (valA M p.1).isSome with
          | true => rfl
          | false => rw [e] at b; cases b
        refine ⟨rs, _, _, rfl, hf, hr, hs, ?_, hre⟩
        rw [htake, List.filter_append, hst, List.map_append, List.filter_cons, hyes]
        simp
    · rintro γ ρ' ⟨rs, v2, v5, rfl, hf, hr, hs, hst, hre⟩
      rw [List.length_map, List.length_map, show rows.length = (rows.map Prod.fst).length by rw [List.length_map], List.take_length] at hst
      refine ws_ret (WE.frzL ?_)
      repeat (first | refine we_var rfl ?_)
      exact .inr ⟨rw_, rs.map tupD, ρ, rfl, hr, hs, hrw0, ρ, AB.Sub.refl _, kK rs hst hre⟩
end
end K82
set_option Elab.async false
set_option linter.all false
set_option maxRecDepth 100000
set_option maxHeartbeats 4000000
namespace K82
open PySem PySem.Spec PyProof.Rows L2 Evl HB AB KX SrtO
structure Txt5 (K : PySem.W.Frag) (mg : Str → Option Value) extends Txt4 K mg where
  dbehind_table : Fd K mg "behind_table" sbehind_table ["bare"]
  drow_list : Fd K mg "row_list" srow_list ["table", "taken"]
section
variable {P : Program} {w : World} {K : PySem.W.Frag} {mg : Str → Option Value} {base : Heap}
/-! ### a bare list, and what its table tells -/
/-- b is behind a -/
def SP (ps : List (Str × Str)) (a b : Str) : Prop := ∃ u, Path (one3 ps) a b u
theorem Path.trans {ties : List Tie} {a b c : Str} {u v : Int} (p : Path ties a b u) (q : Path ties b c v) : ∃ x, Path ties a c x := by
  induction p with
  | one h => exact ⟨_, .more h q⟩
  | more h _ ih =>
    obtain ⟨x, hx⟩ := ih q
    exact ⟨_, .more h hx⟩
theorem SP.trans (ps : List (Str × Str)) : Trans (SP ps) := fun a b c ⟨_, p⟩ ⟨_, q⟩ => p.trans q
theorem Path.from_ {ties : List Tie} {names : List Str} (hin : ∀ t ∈ ties, t.1 ∈ names ∧ t.2.1 ∈ names) {a b : Str} {u : Int} (p : Path ties a b u) : a ∈ names := by
  cases p with
  | one h => exact (hin _ h).1
  | more h _ => exact (hin _ h).1
theorem Path.up {ties : List Tie} {rank : Str → Nat} (hr : ∀ t ∈ ties, rank t.1 < rank t.2.1) {a b : Str} {u : Int} (p : Path ties a b u) : rank a < rank b := by
  induction p with
  | one h => exact hr _ h
  | more h _ ih => exact Nat.lt_trans (hr _ h) ih
theorem SP.mem {names : List Str} {ps : List (Str × Str)} (hf : Fits names (one3 ps)) {a b : Str} (h : SP ps a b) : a ∈ names ∧ b ∈ names := by
  obtain ⟨u, p⟩ := h
  exact ⟨p.from_ hf.2.2.2.1, p.mem hf.2.2.2.1⟩
theorem tab_val {names : List Str} {ties : List Tie} {rows : List (Str × List (Str × Int))} (h : TabOk names ties rows) (nd : names.Nodup) {x : Str} (hx : x ∈ names) : ∃ r, valA rows x = some r ∧ RowOk r (Path ties x) := by
  have nk : (rows.map Prod.fst).Nodup := h.perm.nodup_iff.mpr nd
  obtain ⟨p, hp, rfl⟩ := List.mem_map.mp (h.perm.mem_iff.mpr hx)
  exact ⟨p.2, valA_of nk hp, h.row p hp⟩
theorem succ_iff {names : List Str} {ps : List (Str × Str)} {rows : List (Str × List (Str × Int))} (h : TabOk names (one3 ps) rows) (hf : Fits names (one3 ps)) {x y : Str} : SR rows x y ↔ SP ps x y := by
  have nk : (rows.map Prod.fst).Nodup := h.perm.nodup_iff.mpr hf.1
  constructor
  · intro hy
    by_cases hx : x ∈ names
    · obtain ⟨r, er, ho⟩ := tab_val h hf.1 hx
      have hy' : y ∈ ((valA rows x).getD []).map Prod.fst := hy
      rw [er] at hy'
      obtain ⟨p, hp, rfl⟩ := List.mem_map.mp hy'
      exact ⟨_, (ho.mx p hp).1⟩
    · have : valA rows x = none := valA_none.mpr fun m => hx (h.perm.mem_iff.mp m)
      have hy' : y ∈ ((valA rows x).getD []).map Prod.fst := hy
      rw [this] at hy'
      simp at hy'
  · rintro ⟨u, p⟩
    obtain ⟨r, er, ho⟩ := tab_val h hf.1 (p.from_ hf.2.2.2.1)
    show y ∈ ((valA rows x).getD []).map Prod.fst
    rw [er]
    exact ho.all y u p
theorem tab_fit {names : List Str} {ps : List (Str × Str)} {rows : List (Str × List (Str × Int))} (h : TabOk names (one3 ps) rows) (hf : Fits names (one3 ps)) : TabFit names rows :=
  ⟨hf.2.1, fun x hx => (tab_val h hf.1 hx).imp fun _ z => z.1, fun x y hy => (SP.mem hf ((succ_iff h hf).mp hy)).2⟩
/-- a full matching tells both sizes -/
theorem full_best {names D : List Str} {S : Str → Str → Prop} {M : List (Str × Str)} {rs : List (List Str)} (tr : Trans S) (nd : names.Nodup) (hin : ∀ a b, S a b → a ∈ names ∧ b ∈ names) (rank : Str → Nat) (hr : ∀ a b, S a b → rank a < rank b) (h : Links S D M) (hD : ∀ x, x ∈ names → x ∈ D)
    (hs : rs.map (fun r => r[0]?) = (names.filter fun x => !(valA M x).isSome).map some) (he : ∀ r, r ∈ rs → RowEnd M r) : Cover names S rs ∧ rs.length + M.length = names.length ∧ Best names S rs.length := by
  obtain ⟨hc, hl⟩ := rows_cover nd h.m rank hr hin hs he
  obtain ⟨zs, ha, hz⟩ := links_anti nd hin h hD
  have hb := (best_of tr ha hc hz hl)
  exact ⟨hc, hl, by rw [hb.2.1]; exact hb.2.2⟩
theorem Links.to {S S' : Str → Str → Prop} {D : List Str} {M : List (Str × Str)} (h : Links S D M) (e : ∀ a b, S a b ↔ S' a b) : Links S' D M := by
  obtain ⟨L, R, hc, ha⟩ := h.cl
  exact ⟨⟨h.m.nd, h.m.inj, fun x l z => (e _ _).mp (h.m.edge x l z)⟩, h.ran, L, R, ⟨fun l r hl hS => hc.out l r hl ((e _ _).mpr hS), hc.par⟩, ha⟩
theorem Best.to_ {names names' : List Str} {S : Str → Str → Prop} {m : Nat} (h : Best names S m) (p : names.Perm names') : Best names' S m := by
  obtain ⟨⟨zs, a, e⟩, rs, c, e'⟩ := h
  exact ⟨⟨zs, ⟨a.nd, fun z hz => p.mem_iff.mp (a.sub z hz), a.no⟩, e⟩, rs, c.to_ p, e'⟩
theorem Matched.to {S S' : Str → Str → Prop} {M : List (Str × Str)} (h : Matched S M) (e : ∀ a b, S a b → S' a b) : Matched S' M := ⟨h.nd, h.inj, fun x l z => e _ _ (h.edge x l z)⟩
/-! ### covering_of -/
abbrev scovering_of : Stmt := topS 14
theorem sccovering_of : FnScope ["bare", "table"] ["bare"] (defScope scovering_of) := ⟨rfl, rfl, rfl, by decide +kernel, rfl, by decide +kernel, by decide +kernel⟩
def FCov (xs : List AB.A) (ρ : Sto) (R : QA) : Prop := ∃ names ps, xs = [.d (bareD names ps)] ∧ Fits names (one3 ps) ∧ ∀ rs, Cover names (SP ps) rs → Best names (SP ps) rs.length → Srtd ltS rs → R (.d (.tup (rs.map tupD))) ρ
theorem ok_cov {f : Addr} {fd : FuncData} (F : Fun K "covering_of" "covering_of" scovering_of f fd) (T : Txt5 K mg) : FnOk P w K mg base CX0 4 f fd ["bare"] (spA FCov) := by
  have Gbehind_table : FnOk P w K mg base CX0 3 T.dbehind_table.f T.dbehind_table.fd ["bare"] (spA FBeh) := ok_beh T.dbehind_table.F T.toTxt2
  have Grow_links : FnOk P w K mg base CX0 2 T.drow_links.f T.drow_links.fd ["table"] (spA FLinks) := ok_links T.drow_links.F T.toTxt3
  have Grow_list : FnOk P w K mg base CX0 1 T.drow_list.f T.drow_list.fd ["table", "taken"] (spA FRows) := ok_rows T.drow_list.F T.toTz
  refine F.ok sccovering_of (spA_len fun xs ρ R h => ?_) (fun cdv Ar outer s H vs Q E hr h => ?_)
  · obtain ⟨names, ps, rfl, _⟩ := h
    rfl
  · have hu64 : _ + 64 < cLine := hr.units
    refine ⟨_, (pss_cons (ps_set (i := 1) sccovering_of.nd rfl (Or.inl rfl) (pe_call Gbehind_table (hr.mono (by first | decide | omega)) rfl T.dbehind_table.g T.dbehind_table.k T.dbehind_table.b .nil pass0 (pa_cons (pv 0) pa_nil)))
  (pss_one (ps_ret (pe_callTy call_tupleZ (by rfl) T.z_tuple bt_tuple (pa_cons (pe_callB (cr_sortedTS hu64) (by rfl) T.z_sorted bt_sorted (pa_cons (pe_call Grow_list (hr.mono (by first | decide | omega)) rfl T.drow_list.g T.drow_list.k T.drow_list.b .nil pass0 (pa_cons (pv 1) (pa_cons (pe_call Grow_links (hr.mono (by first | decide | omega)) rfl T.drow_links.g T.drow_links.k T.drow_links.b .nil pass0 (pa_cons (pv 1) pa_nil)) pa_nil))) pa_nil)) pa_nil))))), body_of h fun ρ xs R hF => ?_⟩
    obtain ⟨names, ps, rfl, hf, k⟩ := hF
    repeat (first | with_reducible refine ws_seq ?_ | with_reducible refine ws_asg ?_ | refine we_var rfl ?_ | with_reducible refine wa_cons ?_ | with_reducible refine wa_nil ?_ | with_reducible refine we_call ?_)
    refine ⟨names, ps, rfl, hf, fun rows ht => ?_⟩
    repeat (first | with_reducible refine ws_ret ?_ | with_reducible refine wg_name ?_ | refine we_var rfl ?_ | with_reducible refine wa_cons ?_ | with_reducible refine wa_nil ?_ | with_reducible refine we_cb ?_ | with_reducible refine we_call ?_)
    refine ⟨names, rows, rfl, tab_fit ht hf, ht.perm, hf.1, fun M hM => ?_⟩
    have hL := hM.to fun a b => succ_iff ht hf
    have nk : (rows.map Prod.fst).Nodup := ht.perm.nodup_iff.mpr hf.1
    have hin : ∀ a b, SP ps a b → a ∈ rows.map Prod.fst ∧ b ∈ rows.map Prod.fst := fun a b h => ⟨ht.perm.mem_iff.mpr (SP.mem hf h).1, ht.perm.mem_iff.mpr (SP.mem hf h).2⟩
    obtain ⟨rank, hrank⟩ := hf.2.2.2.2
    with_reducible repeat (first | refine wa_nil ?_)
    refine ⟨SP ps, rows, M, rfl, ⟨nk, by rw [ht.perm.length_eq]; exact hf.2.1, fun x l e => (hin _ _ (hL.m.edge x l e)).2⟩, hL.m, fun rs h1 h2 => ?_⟩
    obtain ⟨hc, _, hb⟩ := full_best (SP.trans ps) nk hin rank (fun a b ⟨u, p⟩ => p.up hrank) hL (fun x hx => hx) h1 h2
    with_reducible repeat (first | refine wa_nil ?_)
    refine on_sortedTS lsd fun rs' hp hso => ?_
    with_reducible repeat (first | refine wa_nil ?_)
    refine on_tuple lsd ⟨_, AB.Sub.refl _, k rs' ((hc.to_ ht.perm).perm_ hp) ?_ hso⟩
    rw [hp.length_eq]
    exact hb.to_ ht.perm
end
end K82
set_option Elab.async false
set_option linter.all false
set_option maxRecDepth 100000
set_option maxHeartbeats 4000000
namespace K82
open PySem PySem.Spec PyProof.Rows L2 Evl HB AB KX SrtO
section
variable {P : Program} {w : World} {K : PySem.W.Frag} {mg : Str → Option Value} {base : Heap}
/-! ### widest_of -/
abbrev swidest_of : Stmt := topS 15
theorem scwidest_of : FnScope ["bare", "table", "taken", "ahead", "name", "starts", "left", "right", "waiting", "other", "link"] ["bare"] (defScope swidest_of) := ⟨rfl, rfl, rfl, by decide +kernel, rfl, by decide +kernel, by decide +kernel⟩
def FWid (xs : List AB.A) (ρ : Sto) (R : QA) : Prop := ∃ names ps, xs = [.d (bareD names ps)] ∧ Fits names (one3 ps) ∧ ∀ zs, Anti names (SP ps) zs → Best names (SP ps) zs.length → ascL ltStr zs = true → R (.d (tupD zs)) ρ
theorem ok_wid {f : Addr} {fd : FuncData} (F : Fun K "widest_of" "widest_of" swidest_of f fd) (T : Txt5 K mg) : FnOk P w K mg base CX0 4 f fd ["bare"] (spA FWid) := by
  have Gbehind_table : FnOk P w K mg base CX0 3 T.dbehind_table.f T.dbehind_table.fd ["bare"] (spA FBeh) := ok_beh T.dbehind_table.F T.toTxt2
  have Grow_links : FnOk P w K mg base CX0 2 T.drow_links.f T.drow_links.fd ["table"] (spA FLinks) := ok_links T.drow_links.F T.toTxt3
  refine F.ok scwidest_of (spA_len fun xs ρ R h => ?_) (fun cdv Ar outer s H vs Q E hr h => ?_)
  · obtain ⟨names, ps, rfl, _⟩ := h
    rfl
  · have hu64 : _ + 64 < cLine := hr.units
    have hu : _ + 1 < cLine := hu_of hr
    refine ⟨_, (pss_cons (ps_set (i := 1) scwidest_of.nd rfl (Or.inl rfl) (pe_call Gbehind_table (hr.mono (by first | decide | omega)) rfl T.dbehind_table.g T.dbehind_table.k T.dbehind_table.b .nil pass0 (pa_cons (pv 0) pa_nil)))
  (pss_cons (ps_set (i := 2) scwidest_of.nd rfl (Or.inl rfl) (pe_call Grow_links (hr.mono (by first | decide | omega)) rfl T.drow_links.g T.drow_links.k T.drow_links.b .nil pass0 (pa_cons (pv 1) pa_nil)))
  (pss_cons (ps_set (i := 3) scwidest_of.nd rfl (Or.inr rfl) (pe_dc (own := [("link", 10)]) rfl scwidest_of.nd (pi_values (pv 2)) (blkOk_by (N := ["bare", "table", "taken", "ahead", "name", "starts", "left", "right", "waiting", "other", "link"]) (sc := defScope swidest_of) (by decide +kernel)) (fun _ _ _ _ _ => (pg_name (i := 10) scwidest_of.nd rfl (Or.inl rfl))) (fun _ _ _ _ _ => pts_nil) (fun _ _ _ _ _ => (pv 10)) (fun _ _ _ _ _ => pe_bl)))
  (pss_cons (ps_setLc (own := [("name", 4)]) (i := 5) rfl scwidest_of.nd rfl rfl (sw_true rfl rfl rfl (by decide +kernel)) (pi_keys (pv 1)) (blkOk_by (N := ["bare", "table", "taken", "ahead", "name", "starts", "left", "right", "waiting", "other", "link"]) (sc := defScope swidest_of) (by decide +kernel)) (fun _ _ _ _ _ => (pg_name (i := 4) scwidest_of.nd rfl (Or.inl rfl))) (fun _ _ _ _ _ => (pts_one (pt_cmp (pc_dnotin hu (pv 4) (pv 3))))) (fun _ _ _ _ _ => (pv 4)))
  (pss_cons (ps_setDc (bs := [("name", 4)]) (j := 6) rfl scwidest_of.nd rfl rfl (sw_dict rfl rfl rfl (by decide +kernel)) (pi_list (pv 5)) (blkOk_by (N := ["bare", "table", "taken", "ahead", "name", "starts", "left", "right", "waiting", "other", "link"]) (sc := defScope swidest_of) (by decide +kernel)) (fun _ _ _ _ _ => (pg_name (i := 4) scwidest_of.nd rfl (Or.inl rfl))) (fun _ _ _ _ _ => pts_nil) (fun _ _ _ _ _ => (pv 4)) (fun _ _ _ _ _ => pe_bl))
  (pss_cons (ps_set (i := 7) scwidest_of.nd rfl (Or.inr rfl) pe_dnewK)
  (pss_cons (ps_for PassesOwn.never rfl (pi_list (pv 5)) (pg_name (i := 4) scwidest_of.nd rfl (Or.inl rfl))
  (pss_cons (ps_set (i := 8) scwidest_of.nd rfl (Or.inl rfl) (pe_lst (pa_cons (pv 4) pa_nil)))
  (pss_one (ps_while PassesOwn.never (pt_truth (pv 8) (fun _ => rfl)) (pss_one (ps_for PassesOwn.never rfl (pi_keys (pe_dget hu (pv 1) (pe_bm0 PySem.F.plainAttrs_list PySem.F.slot_list_pop PySem.F.type_list_pop mt_pop (pv 8)) (fun _ _ => rfl))) (pg_name (i := 9) scwidest_of.nd rfl (Or.inl rfl))
  (pss_one (ps_if (pt_cmp (pc_dnotin hu (pv 9) (pv 7))) (pss_cons (ps_dput hu (pv 7) (pv 9) pe_bl rfl)
  (pss_cons (ps_dput hu (pv 6) (pe_dget hu (pv 2) (pv 9) (fun _ _ => rfl)) pe_bl rfl)
  (pss_one (ps_expr (pe_bm PySem.F.plainAttrs_list PySem.F.slot_list_append PySem.F.type_list_append mt_append (pv 8) (pa_cons (pe_dget hu (pv 2) (pv 9) (fun _ _ => rfl)) pa_nil))))))
  pss_nil))))))))
  (pss_one (ps_ret (pe_callTy call_tupleZ (by rfl) T.z_tuple bt_tuple (pa_cons (pe_callB cr_sortedSS (by rfl) T.z_sorted bt_sorted (pa_cons (pe_lock (pe_lc (own := [("name", 4)]) rfl scwidest_of.nd (pi_keys (pv 6)) (blkOk_by (N := ["bare", "table", "taken", "ahead", "name", "starts", "left", "right", "waiting", "other", "link"]) (sc := defScope swidest_of) (by decide +kernel)) (fun _ _ _ _ _ => (pg_name (i := 4) scwidest_of.nd rfl (Or.inl rfl))) (fun _ _ _ _ _ => (pts_one (pt_cmp (pc_dnotin hu (pv 4) (pv 7))))) (fun _ _ _ _ _ => (pv 4)))) pa_nil)) pa_nil))))))))))), body_of h fun ρ xs R hF => ?_⟩
    obtain ⟨names, ps, rfl, hf, k⟩ := hF
    repeat (first | with_reducible refine ws_seq ?_ | with_reducible refine ws_asg ?_ | refine we_var rfl ?_ | with_reducible refine wa_cons ?_ | with_reducible refine wa_nil ?_ | with_reducible refine we_call ?_)
    refine ⟨names, ps, rfl, hf, fun rows ht => ?_⟩
    repeat (first | with_reducible refine ws_seq ?_ | with_reducible refine ws_asg ?_ | with_reducible refine wg_name ?_ | refine we_var rfl ?_ | with_reducible refine wa_cons ?_ | with_reducible refine wa_nil ?_ | with_reducible refine we_call ?_)
    refine ⟨names, rows, rfl, tab_fit ht hf, ht.perm, hf.1, fun M hM => ?_⟩
    have hL := hM.to fun a b => succ_iff ht hf
    have nk : (rows.map Prod.fst).Nodup := ht.perm.nodup_iff.mpr hf.1
    have hin : ∀ a b, SP ps a b → a ∈ names ∧ b ∈ names := fun a b h => SP.mem hf h
    obtain ⟨rank, hrank⟩ := hf.2.2.2.2
    have hRI : RowsIn names M := ⟨hf.1, hf.2.1, fun x l e => (hin _ _ (hL.m.edge x l e)).2⟩
    have hML := hL.m.len hRI
    obtain ⟨L0, R0, hC, hA⟩ := hL.cl
    -- ahead
    with_reducible repeat (first | refine ws_seq ?_ | refine ws_asg ?_ | refine wg_name ?_)
    refine we_dc (wi_vals ?_)
    repeat (first | refine we_var rfl ?_)
    refine ⟨_, _, rfl, by simp, fun ah hah => ?_⟩
    refine ⟨fun i ρ' => ∃ l : List Str, l.length ≤ i ∧ ρ' = pu ρ ah (.dK (setK l)) ∧ ∀ x, x ∈ l ↔ ∃ (j : Nat) (p : Str × Str), j < i ∧ M[j]? = some p ∧ p.2 = x, ⟨[], Nat.zero_le _, rfl, fun x => ⟨fun h => by simp at h, fun ⟨j, p, h, _⟩ => by omega⟩⟩, fun _ _ _ _ => trivial, ?_, ?_⟩
    · rintro i y ρ' ey ⟨l, hl, rfl, hm⟩
      rw [List.getElem?_map, List.getElem?_map] at ey
      obtain ⟨d, ed, rfl⟩ := Option.map_eq_some_iff.mp ey
      obtain ⟨p, ep, rfl⟩ := Option.map_eq_some_iff.mp ed
      have hlt := (List.getElem?_eq_some_iff.mp ep).1
      refine wgv_name (by decide) (wt_yes ⟨fun _ => ?_, fun z => by cases z⟩)
      repeat (first | refine we_var rfl ?_ | with_reducible refine we_bl ?_)
      refine ⟨_, .inr p.2, rfl, pu_same, by unfold setK; rw [List.length_map]; omega, ins l p.2, by have := ins_len l p.2; omega, by rw [pu_pu, setK_put], fun x => ?_⟩
      rw [mem_ins, hm]
      constructor
      · rintro (⟨j, q, hj, eq, h⟩ | rfl)
        · exact ⟨j, q, by omega, eq, h⟩
        · exact ⟨i, p, by omega, ep, rfl⟩
      · rintro ⟨j, q, hj, eq, h⟩
        rcases Nat.lt_or_ge j i with c | c
        · exact .inl ⟨j, q, c, eq, h⟩
        · have : j = i := by omega
          subst this
          rw [ep] at eq
          cases eq
          exact .inr h.symm
    rintro ρ1 ⟨al, hal, rfl, ham⟩
    have ham' : ∀ x, x ∈ al ↔ ∃ r, valA M r = some x := fun x => by
      rw [ham]
      constructor
      · rintro ⟨j, p, _, ep, rfl⟩
        exact ⟨p.1, valA_of hL.m.nd (List.mem_of_getElem? ep)⟩
      · rintro ⟨r, er⟩
        obtain ⟨j, hj, ej⟩ := List.mem_iff_getElem.mp (valA_mem er)
        exact ⟨j, _, by rw [List.length_map, List.length_map]; exact hj, List.getElem?_eq_getElem hj, by rw [ej]⟩
    -- starts
    with_reducible repeat (first | refine ws_seq ?_ | refine ws_asg ?_ | refine wg_name ?_)
    refine we_lcF (wi_keys ?_)
    repeat (first | refine we_var rfl ?_)
    refine ⟨_, _, rfl, Str, rows.map Prod.fst, D.str, D.str, fun x => !decide (x ∈ al), by rw [List.map_map, List.map_map, List.map_map]; rfl, fun _ _ => trivial, by rw [ht.perm.length_eq]; have := hf.2.1; omega, fun n hn ρx sb => ?_, ?_⟩
    · refine wgv_name (by decide) ⟨rfl, wt_B (we_dnotin ?_)⟩
      repeat (first | refine we_var rfl ?_)
      refine ⟨_, set_get (sb ah _ pu_same), ?_⟩
      rw [set_has]
      refine ⟨_, rfl, rfl, rfl, fun _ => ?_⟩
      repeat (first | refine we_var rfl ?_)
      exact ⟨rfl, rfl⟩
    let st : List Str := (rows.map Prod.fst).filter fun x => !decide (x ∈ al)
    have hst : ∀ x, x ∈ st ↔ x ∈ names ∧ ∀ r, valA M r ≠ some x := fun x => by
      show x ∈ (rows.map Prod.fst).filter _ ↔ _
      rw [List.mem_filter, Bool.not_eq_true', decide_eq_false_iff_not, ham', ht.perm.mem_iff]
      exact and_congr_right fun _ => ⟨fun h r e => h ⟨r, e⟩, fun h ⟨r, e⟩ => h r e⟩
    have ndst : st.Nodup := nk.filter _
    have hstn : st.length ≤ 1000 := Nat.le_trans (KN.nodup_len ndst fun x hx => ((hst x).mp hx).1) hf.2.1
    have hL0 : ∀ x, x ∈ st → L0 x ∧ x ∈ names := fun x hx => by
      obtain ⟨h1, h2⟩ := (hst x).mp hx
      exact ⟨(hA x (ht.perm.mem_iff.mpr h1)).resolve_left fun ⟨r, e⟩ => h2 r e, h1⟩
    -- left
    with_reducible repeat (first | refine ws_seq ?_ | refine ws_asg ?_ | refine wg_name ?_)
    refine we_dcD (wi_list ?_)
    repeat (first | refine we_var rfl ?_)
    refine ⟨_, lsd, st, fun _ => .bl true, rfl, ndst, by omega, fun _ _ => lsd, fun n ρx hn sb => ?_, fun le hle => ?_⟩
    · refine wgv_name (by decide) ⟨rfl, wt_yes ⟨rfl, rfl, ?_⟩⟩
      repeat (first | refine we_var rfl ?_)
      refine ⟨rfl, rfl, ?_⟩
      with_reducible repeat (first | refine we_bl ?_)
      exact ⟨rfl, rfl⟩
    have hle0 : ρ le = none := none_of ((AB.Sub.refl ρ).new hah) hle
    have lea : le ≠ ah := fun z => by rw [z, pu_same] at hle; cases hle
    with_reducible repeat (first | refine ws_seq ?_ | refine ws_asg ?_ | refine wg_name ?_)
    refine we_dictM fun ri hri => ?_
    with_reducible repeat (first | refine ws_seq ?_ | refine wg_name ?_)
    have ril : ri ≠ le := fun z => by rw [z, pu_same] at hri; cases hri
    have hri0 : ρ ri = none := none_of (((AB.Sub.refl ρ).new hah).new hle0) hri
    refine ws_for (wi_list ?_)
    repeat (first | refine we_var rfl ?_)
    refine ⟨_, lsd, fun i γ ρ' => ∃ (Lk Rk : List Str) (v4 v8 v9 : Option AB.A), γ = [some (.d (bareD names ps)), some (.d (tabD rows)), some (.d (strD M)), some (.m ah), v4, some (.d (.lst (st.map D.str))), some (.m le), some (.m ri), v8, v9, none] ∧
      ρ' le = some (.dK (setK Lk)) ∧ ρ' ri = some (.dK (setK Rk)) ∧ AB.Sub ρ ρ' ∧ Reach names (SP ps) M L0 st Lk Rk (st.drop i), ?_, fun _ _ _ _ _ => lsd, ?_, ?_⟩
    · exact ⟨st, [], _, _, _, rfl, by rw [pu_ne (Ne.symm ril)]; exact pu_same, pu_same, (((AB.Sub.refl ρ).new hah).new hle0).new hri0, Reach.start ndst hL0⟩
    · rintro i y γ ρ' ey ⟨Lk, Rk, v4, v8, v9, rfl, h1, h2, h3, hR⟩
      obtain ⟨x, ex, rfl⟩ := at_src ey
      have hdrop : st.drop i = x :: st.drop (i + 1) := by
        obtain ⟨hi, e⟩ := List.getElem?_eq_some_iff.mp ex
        rw [← e]
        exact (List.getElem_cons_drop hi).symm
      refine wg_name ?_
      with_reducible repeat (first | refine ws_seq ?_ | refine ws_asg ?_)
      refine we_lstM ?_
      repeat (first | refine we_var rfl ?_ | with_reducible refine wa_cons ?_ | with_reducible refine wa_nil ?_)
      refine ⟨by show 1 ≤ 100000; decide, fun wa hwa => ?_⟩
      with_reducible repeat (first | refine wg_name ?_)
      have wal : wa ≠ le := fun z => by rw [z, h1] at hwa; cases hwa
      have war : wa ≠ ri := fun z => by rw [z, h2] at hwa; cases hwa
      have hwa0 := none_of h3 hwa
      refine ws_while (fun m γ ρ' => ∃ (Lk Rk W : List Str) (v9 : Option AB.A), γ = [some (.d (bareD names ps)), some (.d (tabD rows)), some (.d (strD M)), some (.m ah), some (.d (.str x)), some (.d (.lst (st.map D.str))), some (.m le), some (.m ri), some (.m wa), v9, none] ∧
        ρ' wa = some (.lst ((W.map D.str).map .d)) ∧ ρ' le = some (.dK (setK Lk)) ∧ ρ' ri = some (.dK (setK Rk)) ∧ AB.Sub ρ ρ' ∧ Reach names (SP ps) M L0 st Lk Rk (W ++ st.drop (i + 1)) ∧ (∀ z, z ∈ W → z ∈ Lk) ∧ m + Rk.length = W.length + names.length ∧ m ≤ names.length + 1) (1 + names.length - Rk.length) ?_ ?_
      · have hRn : Rk.length ≤ names.length := KN.nodup_len hR.ndR fun z hz => by
          obtain ⟨l, e, _⟩ := hR.hR z hz
          exact (hin _ _ (hL.m.edge z l e)).2
        exact ⟨Lk, Rk, [x], _, rfl, pu_same, by rw [pu_ne (Ne.symm wal)]; exact h1, by rw [pu_ne (Ne.symm war)]; exact h2, h3.new hwa0, by rw [hdrop] at hR; exact hR, fun z hz => by
          rw [List.mem_singleton.mp hz]
          exact hR.st x (List.mem_of_getElem? ex), by simp; omega, by omega⟩
      · rintro m γ ρ3 ⟨Lk, Rk, W, v9, rfl, g1, g2, g3, g4, hR, hW, hm, hmz⟩
        have hRn : Rk.length ≤ names.length := KN.nodup_len hR.ndR fun z hz => by
          obtain ⟨l, e, _⟩ := hR.hR z hz
          exact (hin _ _ (hL.m.edge z l e)).2
        repeat (first | refine we_var rfl ?_ | with_reducible refine wt_tru ?_)
        refine ⟨_, truL (lsm g1), fun b => ?_, fun b => ?_⟩
        · obtain ⟨W0, l, rfl⟩ : ∃ W0 l, W = W0 ++ [l] := by
            rcases List.eq_nil_or_concat W with e | ⟨a, b', e⟩
            · rw [e] at b
              cases b
            · exact ⟨a, b', by rw [e, List.concat_eq_append]⟩
          have g1' : ρ3 wa = some (.lst ((W0.map D.str).map .d ++ [.d (.str l)])) := by rw [g1]; simp only [List.map_append]; rfl
          obtain ⟨hl0, hln⟩ := hR.hL l (hW l (by simp))
          obtain ⟨r, er, ho⟩ := tab_val ht hf.1 hln
          have hsr : succ rows l = r.map Prod.fst := by
            unfold succ
            rw [er]
            rfl
          refine ws_for (wi_keys (we_dget ?_))
          repeat (first | refine we_var rfl ?_)
          refine we_bm0 ?_
          repeat (first | refine we_var rfl ?_)
          refine ⟨ty_lst g1', on_pop g1' ?_⟩
          refine ⟨_, tab_get er, ?_⟩
          refine ⟨_, _, rfl, ?_⟩
          refine ⟨fun k γ ρ' => ∃ (Lk Rk W : List Str) (v9 : Option AB.A), γ = [some (.d (bareD names ps)), some (.d (tabD rows)), some (.d (strD M)), some (.m ah), some (.d (.str x)), some (.d (.lst (st.map D.str))), some (.m le), some (.m ri), some (.m wa), v9, none] ∧
            ρ' wa = some (.lst ((W.map D.str).map .d)) ∧ ρ' le = some (.dK (setK Lk)) ∧ ρ' ri = some (.dK (setK Rk)) ∧ AB.Sub ρ ρ' ∧ Reach names (SP ps) M L0 st Lk Rk (l :: W ++ st.drop (i + 1)) ∧ (∀ z, z ∈ W → z ∈ Lk) ∧ m + Rk.length = W.length + 1 + names.length ∧ ∀ q, q ∈ r.take k → q.1 ∈ Rk, ?_, fun _ _ _ _ _ => trivial, ?_, ?_⟩
          · refine ⟨Lk, Rk, W0, _, rfl, pu_same, by rw [pu_ne (Ne.symm wal)]; exact g2, by rw [pu_ne (Ne.symm war)]; exact g3, g4.new hwa0, hR.sub fun z hz => ?_, fun z hz => hW z (List.mem_append_left _ hz), by rw [hm, List.length_append, List.length_singleton], fun q hq => by simp at hq⟩
            rcases List.mem_append.mp hz with a | a
            · rcases List.mem_append.mp a with a | a
              · exact List.mem_cons_of_mem _ (List.mem_append_left _ a)
              · rw [List.mem_singleton.mp a]
                exact List.mem_cons_self
            · exact List.mem_cons_of_mem _ (List.mem_append_right _ a)
          · rintro k y γ ρ4 ey ⟨Lk, Rk, W, v9, rfl, g1, g2, g3, g4, hR, hW, hm, hk⟩
            rw [List.getElem?_map, List.getElem?_map] at ey
            obtain ⟨d, ed, rfl⟩ := Option.map_eq_some_iff.mp ey
            obtain ⟨q, eq, rfl⟩ := Option.map_eq_some_iff.mp ed
            have hqr := List.mem_of_getElem? eq
            have hqs : SP ps l q.1 := (succ_iff ht hf).mp (by
              show q.1 ∈ succ rows l
              rw [hsr]
              exact List.mem_map.mpr ⟨q, hqr, rfl⟩)
            have hkn : ∀ {z}, z ∈ r.take (k + 1) → z ∈ r.take k ∨ z = q := fun {z} hz => by
              rw [List.take_succ, eq] at hz
              rcases List.mem_append.mp hz with a | a
              · exact .inl a
              · exact .inr (by simpa using a)
            refine wg_name ?_
            refine ws_if (wt_B (we_dnotin ?_))
            repeat (first | refine we_var rfl ?_)
            refine ⟨_, set_get g3, ?_⟩
            rw [set_has]
            refine ⟨_, rfl, fun b1 => ?_, fun b1 => ?_⟩
            · have nR : q.1 ∉ Rk := by simpa using b1
              obtain ⟨l', el, hl'⟩ := hC.par q.1 (hC.out l q.1 hl0 hqs)
              have hn' := (hin _ _ (hL.m.edge _ _ el)).1
              have hRn : Rk.length ≤ names.length := KN.nodup_len hR.ndR fun z hz => by
                obtain ⟨l, e, _⟩ := hR.hR z hz
                exact (hin _ _ (hL.m.edge z l e)).2
              have hLn : Lk.length ≤ names.length := KN.nodup_len hR.ndL fun z hz => (hR.hL z hz).2
              have hWn := hf.2.1
              with_reducible repeat (first | refine ws_seq ?_)
              refine ws_dput ?_
              repeat (first | refine we_var rfl ?_ | with_reducible refine we_bl ?_)
              refine ⟨_, set_put g3 (by omega), ?_⟩
              rw [ins_out nR]
              refine ws_seq (ws_dput ?_)
              repeat (first | refine we_var rfl ?_ | with_reducible refine we_bl ?_)
              refine we_dget ?_
              repeat (first | refine we_var rfl ?_)
              refine ⟨.d (.str l'), by have := strD_get (l := M) (x := q.1) (ρ := pu ρ4 ri (.dK (setK (Rk ++ [q.1])))); rw [el] at this; exact this, ?_⟩
              refine ⟨_, set_put (a := le) (l := Lk) (by rw [pu_ne (Ne.symm ril)]; exact g2) (by omega), ?_⟩
              have hwa4 : pu (pu ρ4 ri (.dK (setK (Rk ++ [q.1])))) le (.dK (setK (ins Lk l'))) wa = some (.lst ((W.map D.str).map .d)) := by rw [pu_ne wal, pu_ne war]; exact g1
              with_reducible repeat (first | refine ws_drop ?_)
              refine we_bm ?_
              repeat (first | refine we_var rfl ?_)
              refine ⟨ty_lst hwa4, wa_cons (we_dget ?_)⟩
              repeat (first | refine we_var rfl ?_)
              refine ⟨.d (.str l'), by have := strD_get (l := M) (x := q.1) (ρ := pu (pu ρ4 ri (.dK (setK (Rk ++ [q.1])))) le (.dK (setK (ins Lk l')))); rw [el] at this; exact this, ?_⟩
              with_reducible repeat (first | refine wa_nil ?_)
              refine on_append hwa4 (by rw [src_len]; omega) ?_
              refine ⟨ins Lk l', Rk ++ [q.1], W ++ [l'], _, rfl, by rw [pu_same]; simp only [List.map_append]; rfl, by rw [pu_ne (Ne.symm wal), pu_same], by rw [pu_ne (Ne.symm war), pu_ne ril, pu_same], ((g4.new hri0).new hle0).new hwa0, hR.add nR el hl' hn' (fun z hz => ?_) (by simp), fun z hz => ?_, ?_, fun z hz => ?_⟩
              · rcases List.mem_append.mp hz with a | a
                · rcases List.mem_cons.mp a with a | a
                  · rw [a]
                    simp
                  · simp [a]
                · simp [a]
              · rcases List.mem_append.mp hz with a | a
                · exact mem_ins.mpr (.inl (hW z a))
                · exact mem_ins.mpr (.inr (List.mem_singleton.mp a))
              · rw [List.length_append, List.length_append, List.length_singleton, List.length_singleton]
                omega
              · rcases hkn hz with a | a
                · exact List.mem_append_left _ (hk z a)
                · rw [a]
                  simp
            · have yR : q.1 ∈ Rk := by simpa using b1
              with_reducible repeat (first | refine ws_next ?_)
              refine ⟨Lk, Rk, W, _, rfl, g1, g2, g3, g4, hR, hW, hm, fun z hz => ?_⟩
              rcases hkn hz with a | a
              · exact hk z a
              · rw [a]
                exact yR
          · rintro γ ρ4 ⟨Lk, Rk, W, v9, rfl, g1, g2, g3, g4, hR, hW, hm, hk⟩
            rw [List.length_map, List.length_map, List.take_length] at hk
            have hdone : ∀ q, SP ps l q → q ∈ Rk := fun q hq => by
              have : q ∈ succ rows l := (succ_iff ht hf).mpr hq
              rw [hsr] at this
              obtain ⟨z, hz, rfl⟩ := List.mem_map.mp this
              exact hk z hz
            have hRn : Rk.length ≤ names.length := KN.nodup_len hR.ndR fun z hz => by
              obtain ⟨l, e, _⟩ := hR.hR z hz
              exact (hin _ _ (hL.m.edge z l e)).2
            refine ⟨m - 1, by omega, Lk, Rk, W, _, rfl, g1, g2, g3, g4, hR.shut fun z hz => ?_, hW, by omega, by omega⟩
            rcases List.mem_cons.mp hz with a | a
            · rw [a]
              exact .inr hdone
            · exact .inl a
        · have hWe : W = [] := by
            cases W with
            | nil => rfl
            | cons a W => cases b
          subst hWe
          exact ⟨Lk, Rk, _, _, _, rfl, g2, g3, g4, hR⟩
    · rintro γ ρ' ⟨Lk, Rk, v4, v8, v9, rfl, h1, h2, h3, hR⟩
      have hR' : Reach names (SP ps) M L0 st Lk Rk [] := by
        rw [src_len, show ((rows.map Prod.fst).filter fun x => !decide (x ∈ al)).length = st.length from rfl, List.drop_length] at hR
        exact hR
      obtain ⟨ha, hz⟩ := hR'.fin hf.1 hL.m hin fun x hx hn => (hst x).mpr ⟨hx, hn⟩
      have hb := anti_best (SP.trans ps) hf.1 hin rank (fun a b ⟨u, p⟩ => p.up hrank) hL.m ha hz
      have hLn : Lk.length ≤ names.length := KN.nodup_len hR.ndL fun z hz => (hR.hL z hz).2
      have hnz := hf.2.1
      with_reducible repeat (first | refine ws_ret ?_ | refine wa_cons ?_ | refine we_cb ?_)
      refine we_lock h1 fun o ws => ?_
      refine we_lcF (wi_keysM ?_)
      repeat (first | refine we_var rfl ?_)
      refine ⟨le, o, ws, _, rfl, pu_same, Str, Lk, D.str, D.str, fun x => !decide (x ∈ Rk), by unfold setK; rw [List.map_map, List.map_map]; rfl, fun ρx sb => sb _ _ pu_same, by omega, fun n hn ρx sb => ?_, pu_same, ?_⟩
      · refine wgv_name (by decide) ⟨rfl, wt_B (we_dnotin ?_)⟩
        repeat (first | refine we_var rfl ?_)
        refine ⟨_, set_get (sb ri _ (by rw [pu_ne ril]; exact h2)), ?_⟩
        rw [set_has]
        refine ⟨_, rfl, rfl, rfl, fun _ => ?_⟩
        repeat (first | refine we_var rfl ?_)
        exact ⟨rfl, rfl⟩
      · with_reducible repeat (first | refine wa_nil ?_)
        refine on_sortedSS lsd fun zs hp hso => ?_
        with_reducible repeat (first | refine wa_nil ?_)
        refine on_tuple lsd ⟨ρ, ?_, k zs (ha.perm_ hp) ?_ ?_⟩
        · intro a u e
          rw [pu_pu]
          exact (h3.new hle0) a u e
        · rw [hp.length_eq]
          exact hb.2
        · exact asc_of tri_str hso (ha.perm_ hp).nd
end
end K82
set_option Elab.async false
set_option linter.all false
set_option maxRecDepth 100000
set_option maxHeartbeats 4000000
namespace K82
open PySem PySem.Spec PyProof.Rows L2 Evl HB AB KX SrtO
structure Txt6 (K : PySem.W.Frag) (mg : Str → Option Value) extends Txt5 K mg where
  dare_names : Fd K mg "are_names" sare_names ["thing", "known"]
  dwidest_of : Fd K mg "widest_of" swidest_of ["bare"]
section
variable {P : Program} {w : World} {K : PySem.W.Frag} {mg : Str → Option Value} {base : Heap}
/-- values of which a tuple may be asked of -/
structure Th1 (t : D) : Prop where
  p : plainD t = true
  l : ∀ l, t = .tup l → l.length ≤ 1000 ∧ ∀ x ∈ l, plainD x = true
structure Th2 (t : D) : Prop where
  p : plainD t = true
  l : ∀ l, t = .tup l → l.length ≤ 1000 ∧ ∀ x ∈ l, Th1 x
/-- t is an open set -/
def OpenD (names : List Str) (S : Str → Str → Prop) (t : D) : Prop := ∃ zs, t = tupD zs ∧ Anti names S zs ∧ ascL ltStr zs = true
def names_iff {ks : List Key} {t : D} : (namesOf ks t).isSome = true ↔ ∃ zs, t = tupD zs ∧ (∀ z, z ∈ zs → Sum.inr z ∈ ks) ∧ ascL ltStr zs = true := by
  constructor
  · intro h
    cases t with
    | tup l =>
      have h : ((strsOf l).bind fun zs => if (zs.all (fun z => hasK ks (Sum.inr z)) && ascL ltStr zs) = true then some zs else none).isSome = true := h
      cases e : strsOf l with
      | none => rw [e] at h; cases h
      | some zs =>
        rw [e] at h
        have h : (if (zs.all (fun z => hasK ks (Sum.inr z)) && ascL ltStr zs) = true then some zs else none).isSome = true := h
        by_cases c : (zs.all (fun z => hasK ks (Sum.inr z)) && ascL ltStr zs) = true
        · rw [Bool.and_eq_true] at c
          exact ⟨zs, by unfold tupD; rw [strsOf_map e], fun z hz => hasK_iff.mp (List.all_eq_true.mp c.1 z hz), c.2⟩
        · rw [if_neg c] at h
          cases h
    | _ => cases h
  · rintro ⟨zs, rfl, h1, h2⟩
    have e : strsOf (zs.map D.str) = some zs := by
      clear h1 h2
      induction zs with
      | nil => rfl
      | cons z zs ih =>
        show (strsOf (zs.map D.str)).map (z :: ·) = _
        rw [ih]
        rfl
    show ((strsOf (zs.map D.str)).bind fun zs => if (zs.all (fun z => hasK ks (Sum.inr z)) && ascL ltStr zs) = true then some zs else none).isSome = true
    rw [e]
    show (if (zs.all (fun z => hasK ks (Sum.inr z)) && ascL ltStr zs) = true then some zs else none).isSome = true
    rw [h2, Bool.and_true, if_pos]
    · rfl
    · exact List.all_eq_true.mpr fun z hz => hasK_iff.mpr (h1 z hz)
theorem asc_nd {α : Type} {lt : α → α → Bool} (tr : ∀ {x y z}, lt x y = true → lt y z = true → lt x z = true) (ir : ∀ x, lt x x = false) {l : List α} (h : ascL lt l = true) : l.Nodup := by
  have h := ascL_iff.mp h
  have main : ∀ (d i : Nat) (x y : α), l[i]? = some x → l[i + 1 + d]? = some y → lt x y = true := by
    intro d
    induction d with
    | zero => exact fun i x y ex ey => h i x y ex ey
    | succ d ih =>
      intro i x y ex ey
      have hl := (List.getElem?_eq_some_iff.mp ey).1
      have ez : l[i + 1 + d]? = some l[i + 1 + d] := List.getElem?_eq_getElem (by omega)
      exact tr (ih i x _ ex ez) (h _ _ _ ez ey)
  refine List.pairwise_iff_getElem.mpr fun i j hi hj hij e => ?_
  have := main (j - i - 1) i l[i] l[j] (List.getElem?_eq_getElem hi) (by rw [show i + 1 + (j - i - 1) = j by omega]; exact List.getElem?_eq_getElem hj)
  rw [e, ir] at this
  cases this
theorem ltStr_trans {x y z : Str} (h : ltStr x y = true) (k : ltStr y z = true) : ltStr x z = true := decide_eq_true (List.lt_trans (of_decide_eq_true h) (of_decide_eq_true k))
theorem ltStr_ir (x : Str) : ltStr x x = false := decide_eq_false (list_lt_irrefl _)
theorem strs_inj : ∀ {a b : List Str}, a.map D.str = b.map D.str → a = b
  | [], [], _ => rfl
  | [], _ :: _, h => by cases h
  | _ :: _, [], h => by cases h
  | x :: a, y :: b, h => by
    rw [List.map_cons, List.map_cons] at h
    injection h with h1 h2
    rw [D.str.inj h1, strs_inj h2]
theorem tupD_inj {a b : List Str} (h : tupD a = tupD b) : a = b := strs_inj (D.tup.inj h)
theorem row_get {r : List (Str × Int)} {x : Str} {ρ : Sto} : DGA (.d (rowD r)) (.d (.str x)) ρ ((valA r x).map fun v => AB.A.d (.int v)) :=
  .inr (.inl ⟨_, _, .inr x, rfl, rfl, by simp, by rw [← rowK_zip, rowK_val]⟩)
/-! ### is_open -/
abbrev sis_open : Stmt := topS 16
theorem scis_open : FnScope ["table", "thing", "name", "other"] ["table", "thing"] (defScope sis_open) := ⟨rfl, rfl, rfl, by decide +kernel, rfl, by decide +kernel, by decide +kernel⟩
def FOpen (xs : List AB.A) (ρ : Sto) (R : QA) : Prop := ∃ names ps rows t, xs = [.d (tabD rows), .d t] ∧ Fits names (one3 ps) ∧ TabOk names (one3 ps) rows ∧ Th1 t ∧ ∀ b : Bool, (b = true ↔ OpenD names (SP ps) t) → R (.d (.bl b)) ρ
theorem ok_open {f : Addr} {fd : FuncData} (F : Fun K "is_open" "is_open" sis_open f fd) (T : Txt6 K mg) : FnOk P w K mg base CX0 3 f fd ["table", "thing"] (spA FOpen) := by
  have Gare_names : FnOk P w K mg base CX0 2 T.dare_names.f T.dare_names.fd ["thing", "known"] (spA FAre) := ok_are T.dare_names.F T.toTxt
  refine F.ok scis_open (spA_len fun xs ρ R h => ?_) (fun cdv Ar outer s H vs Q E hr h => ?_)
  · obtain ⟨_, _, _, _, rfl, _⟩ := h
    rfl
  · have hu : _ + 1 < cLine := hu_of hr
    refine ⟨_, (pss_cons (ps_if (pt_not (pt_val (pe_call Gare_names (hr.mono (by first | decide | omega)) rfl T.dare_names.g T.dare_names.k T.dare_names.b .nil pass0 (pa_cons (pv 1) (pa_cons (pv 0) pa_nil))))) (pss_one (ps_ret pe_bl))
  pss_nil)
  (pss_cons (ps_for PassesOwn.never rfl (pi_tup (pv 1)) (pg_name (i := 2) scis_open.nd rfl (Or.inr rfl))
  (pss_one (ps_if (pt_val (pe_callB (cr_any rfl) (by rfl) T.z_any bt_any (pa_cons (pe_lc (own := [("other", 3)]) rfl scis_open.nd (pi_tup (pv 1)) (blkOk_by (N := ["table", "thing", "name", "other"]) (sc := defScope sis_open) (by decide +kernel)) (fun _ _ _ _ _ => (pg_name (i := 3) scis_open.nd rfl (Or.inl rfl))) (fun _ _ _ _ _ => pts_nil) (fun _ _ _ _ _ => (pe_cmp (pc_din hu (pv 3) (pe_dget hu (pv 0) (pv 2) (fun _ _ => rfl)))))) pa_nil))) (pss_one (ps_ret pe_bl))
  pss_nil)))
  (pss_one (ps_ret pe_bl)))), body_of h fun ρ xs R hF => ?_⟩
    obtain ⟨names, ps, rows, t, rfl, hf, ht, hth, k⟩ := hF
    repeat (first | with_reducible refine ws_seq ?_ | with_reducible refine ws_if ?_ | refine we_var rfl ?_ | with_reducible refine wa_cons ?_ | with_reducible refine wa_nil ?_ | with_reducible refine wt_B ?_ | with_reducible refine wt_not ?_ | with_reducible refine we_call ?_)
    have hks : ∀ z, (Sum.inr z : Key) ∈ rows.map (fun p => (Sum.inr p.1 : Key)) ↔ z ∈ names := fun z => by
      rw [← ht.perm.mem_iff, List.mem_map, List.mem_map]
      exact ⟨fun ⟨p, hp, e⟩ => ⟨p, hp, Sum.inr.inj e⟩, fun ⟨p, hp, e⟩ => ⟨p, hp, by rw [e]⟩⟩
    refine ⟨t, _, _, rfl, by simp, hth.p, fun l e => ⟨Nat.le_trans (hth.l l e).1 (by decide), (hth.l l e).2⟩, _, rfl, fun b1 => ?_, fun b1 => ?_⟩
    · with_reducible repeat (first | refine ws_ret ?_ | refine we_bl ?_)
      refine ⟨_, AB.Sub.refl _, k false ⟨fun h => (by cases h), fun ⟨zs, e, ha, h2⟩ => ?_⟩⟩
      have := names_iff.mpr ⟨zs, e, fun z hz => (hks z).mpr (ha.sub z hz), h2⟩
      rw [this] at b1
      cases b1
    · have b2 : (namesOf (rows.map fun p => (Sum.inr p.1 : Key)) t).isSome = true := by simpa using b1
      obtain ⟨zs, rfl, hz, hasc⟩ := names_iff.mp b2
      have hzn : ∀ z, z ∈ zs → z ∈ names := fun z h => (hks z).mp (hz z h)
      have hzl : zs.length ≤ 1000 := by have := (hth.l _ rfl).1; rw [List.length_map] at this; exact this
      with_reducible repeat (first | refine ws_seq ?_ | refine ws_next ?_)
      refine ws_for (wi_tup ?_)
      repeat (first | refine we_var rfl ?_)
      refine ⟨_, rfl, fun i γ ρ' => ρ' = ρ ∧ (∃ v2, γ = [some (.d (tabD rows)), some (.d (tupD zs)), v2, none]) ∧ ∀ (j : Nat) (x : Str), j < i → zs[j]? = some x → ∀ y, y ∈ zs → ¬ SP ps x y, ?_, fun _ _ _ _ _ => trivial, ?_, ?_⟩
      · exact ⟨rfl, ⟨_, rfl⟩, fun j x h => absurd h (Nat.not_lt_zero _)⟩
      · rintro i y γ ρ' ey ⟨rfl, ⟨v2, rfl⟩, hi⟩
        obtain ⟨x, ex, rfl⟩ := at_src ey
        have hx := List.mem_of_getElem? ex
        obtain ⟨r, er, ho⟩ := tab_val ht hf.1 (hzn x hx)
        have hS : ∀ y, (valA r y).isSome = true ↔ SP ps x y := fun y => by
          rw [← succ_iff ht hf]
          show _ ↔ y ∈ ((valA rows x).getD []).map Prod.fst
          rw [er]
          show _ ↔ y ∈ r.map Prod.fst
          have := @valA_none Str _ Int r y
          cases e : valA r y with
          | none =>
            have := this.mp e
            simp only [Option.isSome_none, Bool.false_eq_true, false_iff]
            exact this
          | some v => simp only [Option.isSome_some, true_iff]; exact List.mem_map.mpr ⟨_, valA_mem e, rfl⟩
        with_reducible repeat (first | refine ws_if ?_ | refine wg_name ?_ | refine wa_cons ?_ | refine we_cb ?_ | refine wt_B ?_)
        refine we_lcF (wi_tup ?_)
        repeat (first | refine we_var rfl ?_)
        refine ⟨_, rfl, Str, zs, D.str, fun y => .bl (valA r y).isSome, fun _ => true, rfl, fun _ _ => trivial, by omega, fun n hn ρx sb => ?_, ?_⟩
        · refine wgv_name (by decide) ⟨rfl, wt_yes ⟨rfl, rfl, fun _ => ?_⟩⟩
          refine we_din ?_
          repeat (first | refine we_var rfl ?_)
          refine we_dget ?_
          repeat (first | refine we_var rfl ?_)
          refine ⟨_, tab_get er, _, row_get, ?_⟩
          rw [isSome_map]
          exact ⟨rfl, rfl⟩
        · rw [nocut]
          with_reducible repeat (first | refine wa_nil ?_)
          refine on_any (bs := zs.map fun y => (valA r y).isSome) (by rw [show zs.map (fun y => D.bl (valA r y).isSome) = (zs.map fun y => (valA r y).isSome).map D.bl by rw [List.map_map]; rfl]; exact lsd) ?_
          refine ⟨_, rfl, fun b3 => ?_, fun b3 => ?_⟩
          · with_reducible repeat (first | refine ws_ret ?_ | refine we_bl ?_)
            refine ⟨_, AB.Sub.refl _, k false ⟨fun h => (by cases h), fun ⟨zs', e, ha, h2⟩ => ?_⟩⟩
            obtain ⟨c, hc, hc2⟩ := List.any_eq_true.mp b3
            obtain ⟨y, hy, rfl⟩ := List.mem_map.mp hc
            have ez := tupD_inj e
            subst ez
            exact absurd ((hS y).mp hc2) (ha.no x y hx hy)
          · with_reducible repeat (first | refine ws_next ?_)
            refine ⟨rfl, ⟨_, rfl⟩, fun j x' hj ej y hy hs => ?_⟩
            rcases Nat.lt_or_ge j i with c | c
            · exact hi j x' c ej y hy hs
            · have : j = i := by omega
              subst this
              rw [ex] at ej
              cases ej
              have : (zs.map fun y => (valA r y).isSome).any id = true := List.any_eq_true.mpr ⟨_, List.mem_map.mpr ⟨y, hy, rfl⟩, (hS y).mpr hs⟩
              rw [this] at b3
              cases b3
      · rintro γ ρ' ⟨rfl, ⟨v2, rfl⟩, hi⟩
        rw [src_len] at hi
        with_reducible repeat (first | refine ws_ret ?_ | refine we_bl ?_)
        refine ⟨_, AB.Sub.refl _, k true ⟨fun _ => ⟨zs, rfl, ⟨asc_nd (lt := ltStr) ltStr_trans ltStr_ir hasc, hzn, fun a b ha hb => ?_⟩, hasc⟩, fun _ => rfl⟩⟩
        obtain ⟨j, hj, ej⟩ := List.mem_iff_getElem.mp ha
        exact hi j a hj (by rw [List.getElem?_eq_getElem hj, ej]) b hb
end
end K82
set_option Elab.async false
set_option linter.all false
set_option maxRecDepth 100000
set_option maxHeartbeats 4000000
namespace K82
open PySem PySem.Spec PyProof.Rows L2 Evl HB AB KX SrtO
structure Txt7 (K : PySem.W.Frag) (mg : Str → Option Value) extends Txt6 K mg where
  dis_open : Fd K mg "is_open" sis_open ["table", "thing"]
section
variable {P : Program} {w : World} {K : PySem.W.Frag} {mg : Str → Option Value} {base : Heap}
/-! ### is_widest -/
abbrev sis_widest : Stmt := topS 17
theorem scis_widest : FnScope ["bare", "thing"] ["bare", "thing"] (defScope sis_widest) := ⟨rfl, rfl, rfl, by decide +kernel, rfl, by decide +kernel, by decide +kernel⟩
def FIsW (xs : List AB.A) (ρ : Sto) (R : QA) : Prop := ∃ names ps t, xs = [.d (bareD names ps), .d t] ∧ Fits names (one3 ps) ∧ Th1 t ∧ ∀ b : Bool, (b = true ↔ ∃ zs, t = tupD zs ∧ Anti names (SP ps) zs ∧ ascL ltStr zs = true ∧ Best names (SP ps) zs.length) → R (.d (.bl b)) ρ
theorem ok_isw {f : Addr} {fd : FuncData} (F : Fun K "is_widest" "is_widest" sis_widest f fd) (T : Txt7 K mg) : FnOk P w K mg base CX0 5 f fd ["bare", "thing"] (spA FIsW) := by
  have Gbehind_table : FnOk P w K mg base CX0 3 T.dbehind_table.f T.dbehind_table.fd ["bare"] (spA FBeh) := ok_beh T.dbehind_table.F T.toTxt2
  have Gwidest_of : FnOk P w K mg base CX0 4 T.dwidest_of.f T.dwidest_of.fd ["bare"] (spA FWid) := ok_wid T.dwidest_of.F T.toTxt5
  have Gis_open : FnOk P w K mg base CX0 3 T.dis_open.f T.dis_open.fd ["table", "thing"] (spA FOpen) := ok_open T.dis_open.F T.toTxt6
  refine F.ok scis_widest (spA_len fun xs ρ R h => ?_) (fun cdv Ar outer s H vs Q E hr h => ?_)
  · obtain ⟨_, _, _, rfl, _⟩ := h
    rfl
  · have hu : _ + 1 < cLine := hu_of hr
    refine ⟨_, (pss_one (ps_ret (pe_and (pe_call Gis_open (hr.mono (by first | decide | omega)) rfl T.dis_open.g T.dis_open.k T.dis_open.b .nil pass0 (pa_cons (pe_call Gbehind_table (hr.mono (by first | decide | omega)) rfl T.dbehind_table.g T.dbehind_table.k T.dbehind_table.b .nil pass0 (pa_cons (pv 0) pa_nil)) (pa_cons (pv 1) pa_nil))) (pe_one (pe_cmpR op_eq (pe_callB call_len_seq (by rfl) T.z_len bt_len (pa_cons (pv 1) pa_nil)) (pe_callB call_len_seq (by rfl) T.z_len bt_len (pa_cons (pe_call Gwidest_of (hr.mono (by first | decide | omega)) rfl T.dwidest_of.g T.dwidest_of.k T.dwidest_of.b .nil pass0 (pa_cons (pv 0) pa_nil)) pa_nil)) (nomark _)))))), body_of h fun ρ xs R hF => ?_⟩
    obtain ⟨names, ps, t, rfl, hf, hth, k⟩ := hF
    repeat (first | with_reducible refine ws_ret ?_ | refine we_var rfl ?_ | with_reducible refine wa_cons ?_ | with_reducible refine wa_nil ?_ | with_reducible refine we_call ?_ | with_reducible refine we_andV ?_)
    refine ⟨names, ps, rfl, hf, fun rows ht => ?_⟩
    repeat (first | refine we_var rfl ?_ | with_reducible refine wa_cons ?_ | with_reducible refine wa_nil ?_)
    refine ⟨names, ps, rows, t, rfl, hf, ht, hth, fun b hb => ?_⟩
    repeat (first | refine ⟨_, (rfl : AB.A.d (D.bl _) = _), ?_⟩)
    refine ⟨fun b1 => ?_, fun b1 => ?_⟩
    · obtain ⟨zs, rfl, ha, hasc⟩ := hb.mp b1
      repeat (first | with_reducible refine we_op ?_ | refine we_var rfl ?_ | with_reducible refine wa_cons ?_ | with_reducible refine wa_nil ?_ | with_reducible refine we_cb ?_ | with_reducible refine we_call ?_ | with_reducible refine on_lenT ?_)
      refine ⟨names, ps, rfl, hf, fun ws hwa hwb _ => ?_⟩
      with_reducible repeat (first | refine wa_nil ?_ | refine o2_eqI ?_ | refine on_lenT ?_)
      refine ⟨_, AB.Sub.refl _, k _ ?_⟩
      rw [List.length_map, List.length_map, decide_eq_true_eq]
      constructor
      · intro e
        have e : zs.length = ws.length := by omega
        exact ⟨zs, rfl, ha, hasc, by rw [e]; exact hwb⟩
      · rintro ⟨zs', e, _, _, hb'⟩
        have := tupD_inj e
        subst this
        exact congrArg _ (hb'.one (SP.trans ps) hwb)
    · refine ⟨_, AB.Sub.refl _, k false ⟨fun h => (by cases h), fun ⟨zs, e, ha, h2, _⟩ => ?_⟩⟩
      rw [hb.mpr ⟨zs, e, ha, h2⟩] at b1
      cases b1
end
end K82
set_option Elab.async false
set_option linter.all false
set_option maxRecDepth 100000
set_option maxHeartbeats 4000000
namespace K82
open PySem PySem.Spec PyProof.Rows L2 Evl HB AB KX SrtO
section
variable {P : Program} {w : World} {K : PySem.W.Frag} {mg : Str → Option Value} {base : Heap}
/-! ### is_row -/
abbrev sis_row : Stmt := topS 18
theorem scis_row : FnScope ["table", "thing", "place", "name"] ["table", "thing"] (defScope sis_row) := ⟨rfl, rfl, rfl, by decide +kernel, rfl, by decide +kernel, by decide +kernel⟩
structure Txt8 (K : PySem.W.Frag) (mg : Str → Option Value) extends Txt7 K mg where
  dis_row : Fd K mg "is_row" sis_row ["table", "thing"]
/-- t is a row: names, each ahead of the next -/
def RowD (names : List Str) (S : Str → Str → Prop) (t : D) : Prop := ∃ r, t = tupD r ∧ r ≠ [] ∧ (∀ x, x ∈ r → x ∈ names) ∧ ∀ (i : Nat) (x y : Str), r[i]? = some x → r[i + 1]? = some y → S x y
def FIsR (xs : List AB.A) (ρ : Sto) (R : QA) : Prop := ∃ names ps rows t, xs = [.d (tabD rows), .d t] ∧ Fits names (one3 ps) ∧ TabOk names (one3 ps) rows ∧ Th1 t ∧ ∀ b : Bool, (b = true ↔ RowD names (SP ps) t) → R (.d (.bl b)) ρ
theorem tab_get' {rows : List (Str × List (Str × Int))} {x : Str} {ρ : Sto} : DGA (.d (tabD rows)) (.d (.str x)) ρ ((valA rows x).map fun r => AB.A.d (rowD r)) :=
  .inr (.inl ⟨_, _, .inr x, rfl, rfl, by simp, by rw [← tabK_zip, tabK_val]⟩)
theorem tab_some {names : List Str} {ps : List (Str × Str)} {rows : List (Str × List (Str × Int))} (ht : TabOk names (one3 ps) rows) {x : Str} : (valA rows x).isSome = true ↔ x ∈ names := by
  rw [← ht.perm.mem_iff]
  have := @valA_none Str _ _ rows x
  cases e : valA rows x with
  | none => simp only [Option.isSome_none, Bool.false_eq_true, false_iff]; exact this.mp e
  | some r => simp only [Option.isSome_some, true_iff]; exact List.mem_map.mpr ⟨_, valA_mem e, rfl⟩
theorem row_some {names : List Str} {ps : List (Str × Str)} {rows : List (Str × List (Str × Int))} (ht : TabOk names (one3 ps) rows) (hf : Fits names (one3 ps)) {x y : Str} {r : List (Str × Int)} (er : valA rows x = some r) : (valA r y).isSome = true ↔ SP ps x y := by
  rw [← succ_iff ht hf]
  show _ ↔ y ∈ ((valA rows x).getD []).map Prod.fst
  rw [er]
  show _ ↔ y ∈ r.map Prod.fst
  have := @valA_none Str _ Int r y
  cases e : valA r y with
  | none => simp only [Option.isSome_none, Bool.false_eq_true, false_iff]; exact this.mp e
  | some v => simp only [Option.isSome_some, true_iff]; exact List.mem_map.mpr ⟨_, valA_mem e, rfl⟩
theorem take_strs {l : List D} {r : List Str} {i : Nat} {z : Str} (h : l.take i = r.map D.str) (hi : r.length = i) (ez : l[i]? = some (.str z)) : l.take (i + 1) = (r ++ [z]).map D.str := by
  rw [List.take_succ, h, ez, List.map_append]
  rfl
theorem isStr_iff {d : D} : isStr d = true ↔ ∃ z, d = .str z := by cases d <;> simp [isStr]
theorem isTup_iff {d : D} : isTup d = true ↔ ∃ l, d = .tup l := by cases d <;> simp [isTup]
theorem ok_isr {f : Addr} {fd : FuncData} (F : Fun K "is_row" "is_row" sis_row f fd) (T : Tz mg) : FnOk P w K mg base CX0 1 f fd ["table", "thing"] (spA FIsR) := by
  refine F.ok scis_row (spA_len fun xs ρ R h => ?_) (fun cdv Ar outer s H vs Q E hr h => ?_)
  · obtain ⟨_, _, _, _, rfl, _⟩ := h
    rfl
  · have hu : _ + 1 < cLine := hu_of hr
    refine ⟨_, (pss_cons (ps_if (PW.pt (pw_or (pt_not (pt_val (pe_callB call_isA (by rfl) T.z_isinstance bt_isinstance (pa_cons (pv 1) (pa_cons (pe_bltn (by rfl) T.z_tuple (v := .ty "tuple") bt_tuple rfl) pa_nil))))) (pw_or1 (pt_cmpR op_eq (pe_callB call_len_seq (by rfl) T.z_len bt_len (pa_cons (pv 1) pa_nil)) pe_int (nomark _))))) (pss_one (ps_ret pe_bl))
  pss_nil)
  (pss_cons (ps_for PassesOwn.never rfl (pi_enumT (by rfl) T.z_enumerate (pa_cons (pv 1) pa_nil)) (pg_tup rfl (pgs_cons (pg_name (i := 2) scis_row.nd rfl (Or.inl rfl)) (pgs_cons (pg_name (i := 3) scis_row.nd rfl (Or.inl rfl)) pgs_nil)))
  (pss_cons (ps_if (PW.pt (pw_or (pt_not (pt_val (pe_callB call_isA (by rfl) T.z_isinstance bt_isinstance (pa_cons (pv 3) (pa_cons (pe_bltn (by rfl) T.z_str (v := .ty "str") bt_str rfl) pa_nil))))) (pw_or1 (pt_cmp (pc_dnotin hu (pv 3) (pv 0)))))) (pss_one (ps_ret pe_bl))
  pss_nil)
  (pss_one (ps_if (PW.pt (pw_and (pt_cmpR op_gt (pv 2) pe_int (nomark _)) (pw_and1 (pt_cmp (pc_dnotin hu (pv 3) (pe_dget hu (pv 0) (pe_ix ix_tup (pv 1) (pe_op op_sub (pv 2) pe_int) (fun _ _ => rfl)) (fun _ _ => rfl))))))) (pss_one (ps_ret pe_bl))
  pss_nil))))
  (pss_one (ps_ret pe_bl)))), body_of h fun ρ xs R hF => ?_⟩
    obtain ⟨names, ps, rows, t, rfl, hf, ht, hth, k⟩ := hF
    have no : ¬ RowD names (SP ps) t → R (.d (.bl false)) ρ := fun h => k false ⟨fun z => (by cases z), fun z => (h z).elim⟩
    repeat (first | with_reducible refine ws_seq ?_ | with_reducible refine ws_if ?_ | refine we_var rfl ?_ | with_reducible refine wa_cons ?_ | with_reducible refine wa_nil ?_ | with_reducible refine we_cb ?_ | with_reducible refine wt_B ?_ | with_reducible refine wt_not ?_ | with_reducible refine wt_or ?_ | with_reducible refine we_ty ?_)
    refine on_is hth.p (kb_tup t hth.p) ?_
    repeat (first | refine ⟨_, (rfl : AB.A.d (D.bl _) = _), ?_⟩)
    refine ⟨fun c => ?_, fun c => ?_⟩
    · skip
      refine ⟨fun _ => ?_, fun c => (by cases c)⟩
      with_reducible repeat (first | refine ws_ret ?_ | refine we_bl ?_)
      refine ⟨_, AB.Sub.refl _, no fun ⟨r, e, _⟩ => ?_⟩
      rw [e] at c
      cases c
    · obtain ⟨l, rfl⟩ := isTup_iff.mp (by simpa using c)
      obtain ⟨hll, hpl⟩ := hth.l l rfl
      repeat (first | with_reducible refine we_op ?_ | refine we_var rfl ?_ | with_reducible refine we_int ?_ | with_reducible refine wa_cons ?_ | with_reducible refine wa_nil ?_ | with_reducible refine we_cb ?_ | with_reducible refine wt_test ?_ | refine ⟨_, (rfl : AB.A.d (D.bl _) = _), ?_⟩ | with_reducible refine o2_eqI ?_ | with_reducible refine on_lenT ?_)
      refine ⟨fun c2 => ?_, fun c2 => ?_⟩
      · with_reducible repeat (first | refine ws_ret ?_ | refine we_bl ?_)
        refine ⟨_, AB.Sub.refl _, no fun ⟨r, e, hne, _⟩ => ?_⟩
        have e' := D.tup.inj e
        rw [e'] at c2
        cases r with
        | nil => exact hne rfl
        | cons x r => simp at c2; omega
      · with_reducible repeat (first | refine ws_seq ?_ | refine ws_next ?_)
        refine ws_for (wi_enumT ?_)
        repeat (first | refine we_var rfl ?_ | with_reducible refine wa_cons ?_ | with_reducible refine wa_nil ?_)
        refine ⟨l, rfl, fun i γ ρ' => ρ' = ρ ∧ (∃ v2 v3, γ = [some (.d (tabD rows)), some (.d (.tup l)), v2, v3]) ∧ ∃ r : List Str, r.length = i ∧ l.take i = r.map D.str ∧ (∀ x, x ∈ r → x ∈ names) ∧ ∀ (j : Nat) (x y : Str), r[j]? = some x → r[j + 1]? = some y → SP ps x y, ?_, fun _ _ _ _ _ => trivial, ?_, ?_⟩
        · exact ⟨rfl, ⟨_, _, rfl⟩, [], rfl, by simp, fun x h => by simp at h, fun j x y h => by simp at h⟩
        · rintro i y γ ρ' ey ⟨rfl, ⟨v2, v3, rfl⟩, r, hri, hrl, hrn, hrc⟩
          rw [List.getElem?_mapIdx] at ey
          obtain ⟨d, ed, rfl⟩ := Option.map_eq_some_iff.mp ey
          have hd : d ∈ l := List.mem_of_getElem? ed
          have hpd := hpl d hd
          refine wg_ptup rfl (wgs_cons (wg_name (wgs_cons (wg_name (wgs_nil ?_)))))
          repeat (first | with_reducible refine ws_seq ?_ | with_reducible refine ws_if ?_ | refine we_var rfl ?_ | with_reducible refine wa_cons ?_ | with_reducible refine wa_nil ?_ | with_reducible refine we_cb ?_ | with_reducible refine wt_B ?_ | with_reducible refine wt_not ?_ | with_reducible refine wt_or ?_ | with_reducible refine we_ty ?_)
          refine on_is hpd (kb_str d hpd) ?_
          repeat (first | refine ⟨_, (rfl : AB.A.d (D.bl _) = _), ?_⟩)
          refine ⟨fun c3 => ?_, fun c3 => ?_⟩
          · skip
            refine ⟨fun _ => ?_, fun c => (by cases c)⟩
            with_reducible repeat (first | refine ws_ret ?_ | refine we_bl ?_)
            refine ⟨_, AB.Sub.refl _, no fun ⟨r', e, _⟩ => ?_⟩
            rw [D.tup.inj e] at hd
            obtain ⟨z, _, rfl⟩ := List.mem_map.mp hd
            cases c3
          · obtain ⟨z, rfl⟩ := isStr_iff.mp (by simpa using c3)
            repeat (first | refine we_var rfl ?_ | with_reducible refine wt_B ?_ | with_reducible refine we_dnotin ?_)
            refine ⟨_, tab_get', ?_⟩
            rw [isSome_map]
            repeat (first | refine ⟨_, (rfl : AB.A.d (D.bl _) = _), ?_⟩)
            refine ⟨fun c4 => ?_, fun c4 => ?_⟩
            · with_reducible repeat (first | refine ws_ret ?_ | refine we_bl ?_)
              refine ⟨_, AB.Sub.refl _, no fun ⟨r', e, _, hn', _⟩ => ?_⟩
              rw [D.tup.inj e] at hd
              obtain ⟨z', hz', ez⟩ := List.mem_map.mp hd
              cases ez
              rw [(tab_some ht).mpr (hn' z hz')] at c4
              cases c4
            · have hz : z ∈ names := (tab_some ht).mp (by simpa using c4)
              have done : (∀ x, r[i - 1]? = some x → 0 < i → SP ps x z) → ∃ r' : List Str, r'.length = i + 1 ∧ l.take (i + 1) = r'.map D.str ∧ (∀ x, x ∈ r' → x ∈ names) ∧ ∀ (j : Nat) (x y : Str), r'[j]? = some x → r'[j + 1]? = some y → SP ps x y := fun hx => by
                refine ⟨r ++ [z], by rw [List.length_append, hri]; rfl, take_strs hrl hri ed, fun x h => ?_, fun j x y e1 e2 => ?_⟩
                · rcases List.mem_append.mp h with h | h
                  · exact hrn x h
                  · rw [List.mem_singleton.mp h]
                    exact hz
                · have h2 := (List.getElem?_eq_some_iff.mp e2).1
                  rw [List.length_append, List.length_singleton] at h2
                  rw [List.getElem?_append_left (by omega)] at e1
                  rcases Nat.lt_or_ge (j + 1) r.length with q | q
                  · rw [List.getElem?_append_left q] at e2
                    exact hrc j x y e1 e2
                  · have : j + 1 = r.length := by omega
                    rw [List.getElem?_append_right q, this, Nat.sub_self] at e2
                    cases Option.some.inj e2
                    exact hx x (by rw [← hri, ← this]; exact e1) (by omega)
              repeat (first | with_reducible refine ws_if ?_ | with_reducible refine ws_next ?_ | with_reducible refine we_op ?_ | refine we_var rfl ?_ | with_reducible refine we_int ?_ | with_reducible refine wt_test ?_ | with_reducible refine wt_and ?_ | refine ⟨_, (rfl : AB.A.d (D.bl _) = _), ?_⟩ | refine o2_I0 (fun _ => Rep.bl _) ?_)
              refine ⟨fun c5 => ?_, fun c5 => ?_⟩
              · have hi0 : 0 < i := by have := of_decide_eq_true c5; omega
                obtain ⟨x, ex, exl⟩ : ∃ x, r[i - 1]? = some x ∧ l[i - 1]? = some (.str x) := by
                  have h9 : i - 1 < r.length := by omega
                  have e2 : r[i - 1]? = some (r[i - 1]'h9) := List.getElem?_eq_getElem h9
                  refine ⟨_, e2, ?_⟩
                  have : (l.take i)[i - 1]? = (r.map D.str)[i - 1]? := by rw [hrl]
                  rw [List.getElem?_take, if_pos (by omega), List.getElem?_map, e2] at this
                  exact this
                have hxn := hrn x (List.mem_of_getElem? ex)
                obtain ⟨rr, err, _⟩ := tab_val ht hf.1 hxn
                repeat (first | refine we_var rfl ?_ | with_reducible refine wt_B ?_ | with_reducible refine we_dnotin ?_)
                refine we_dget ?_
                repeat (first | with_reducible refine we_op ?_ | refine we_var rfl ?_ | with_reducible refine we_int ?_ | refine o2_I0 (fun _ => Rep.int _) ?_)
                refine o2_ixT (z := .str x) (by rw [show ((i : Nat) : Int) - 1 = ((i - 1 : Nat) : Int) by omega]; exact atI_nat' exl) ?_
                refine ⟨_, tab_get err, _, row_get, ?_⟩
                rw [isSome_map]
                repeat (first | refine ⟨_, (rfl : AB.A.d (D.bl _) = _), ?_⟩)
                refine ⟨fun c6 => ?_, fun c6 => ?_⟩
                · with_reducible repeat (first | refine ws_ret ?_ | refine we_bl ?_)
                  refine ⟨_, AB.Sub.refl _, no fun ⟨r', e, _, _, hc'⟩ => ?_⟩
                  have e' := D.tup.inj e
                  subst e'
                  rw [List.getElem?_map] at ed exl
                  obtain ⟨z', ez', hz'⟩ := Option.map_eq_some_iff.mp ed
                  cases hz'
                  obtain ⟨x', ex', hx'⟩ := Option.map_eq_some_iff.mp exl
                  cases hx'
                  have := hc' (i - 1) x z ex' (by rw [show i - 1 + 1 = i by omega]; exact ez')
                  rw [(row_some ht hf err).mpr this] at c6
                  cases c6
                · with_reducible repeat (first | refine ws_next ?_)
                  refine ⟨rfl, ⟨_, _, rfl⟩, done fun x' ex' _ => ?_⟩
                  rw [ex] at ex'
                  cases ex'
                  exact (row_some ht hf err).mp (by simpa using c6)
              · skip
                refine ⟨fun z => (by cases z), fun _ => ?_⟩
                with_reducible repeat (first | refine ws_next ?_)
                exact ⟨rfl, ⟨_, _, rfl⟩, done fun x' _ h0 => by
                  have := of_decide_eq_false c5
                  omega⟩
        · rintro γ ρ' ⟨rfl, ⟨v2, v3, rfl⟩, r, hri, hrl, hrn, hrc⟩
          rw [List.length_mapIdx] at hri hrl
          rw [List.take_length] at hrl
          with_reducible repeat (first | refine ws_ret ?_ | refine we_bl ?_)
          refine ⟨_, AB.Sub.refl _, k true ⟨fun _ => ⟨r, by rw [hrl], ?_, hrn, hrc⟩, fun _ => rfl⟩⟩
          rintro rfl
          rw [show l = [] from hrl] at c2
          cases c2
end
end K82
set_option Elab.async false
set_option linter.all false
set_option maxRecDepth 100000
set_option maxHeartbeats 4000000
namespace K82
open PySem PySem.Spec PyProof.Rows L2 Evl HB AB KX SrtO
section
variable {P : Program} {w : World} {K : PySem.W.Frag} {mg : Str → Option Value} {base : Heap}
theorem srt_one {α : Type} {lt : α → α → Bool} (tri : ∀ x y, lt x y = false → lt y x = false → x = y) : ∀ {l m : List α}, l.Perm m → Srtd lt l → Srtd lt m → l = m
  | [], m, p, _, _ => (List.nil_perm.mp p).symm
  | x :: l, [], p, _, _ => absurd p.length_eq (by simp)
  | x :: l, y :: m, p, hl, hm => by
    have hl' := List.pairwise_cons.mp hl
    have hm' := List.pairwise_cons.mp hm
    have e : x = y := by
      rcases List.mem_cons.mp (p.mem_iff.mp (List.mem_cons_self (a := x))) with h | h
      · exact h
      · rcases List.mem_cons.mp (p.mem_iff.mpr (List.mem_cons_self (a := y))) with h2 | h2
        · exact h2.symm
        · exact tri x y (hm'.1 x h) (hl'.1 y h2)
    subst e
    rw [srt_one tri ((List.perm_cons x).mp p) hl'.2 hm'.2]
theorem asc_srt {α : Type} {lt : α → α → Bool} (tr : ∀ {x y z}, lt x y = true → lt y z = true → lt x z = true) (as : ∀ {x y}, lt x y = true → lt y x = false) {l : List α} (h : ascL lt l = true) : Srtd lt l := by
  have h := ascL_iff.mp h
  have main : ∀ (d i : Nat) (x y : α), l[i]? = some x → l[i + 1 + d]? = some y → lt x y = true := by
    intro d
    induction d with
    | zero => exact fun i x y ex ey => h i x y ex ey
    | succ d ih =>
      intro i x y ex ey
      have hl := (List.getElem?_eq_some_iff.mp ey).1
      have ez : l[i + 1 + d]? = some l[i + 1 + d] := List.getElem?_eq_getElem (by omega)
      exact tr (ih i x _ ex ez) (h _ _ _ ez ey)
  refine List.pairwise_iff_getElem.mpr fun i j hi hj hij => ?_
  exact as (main (j - i - 1) i l[i] l[j] (List.getElem?_eq_getElem hi) (by rw [show i + 1 + (j - i - 1) = j by omega]; exact List.getElem?_eq_getElem hj))
theorem ltStr_as {x y : Str} (h : ltStr x y = true) : ltStr y x = false := strLt_swo x y h
/-- a row of names has each once -/
theorem row_len {names : List Str} {ps : List (Str × Str)} (hf : Fits names (one3 ps)) {r : List Str} (hn : ∀ x, x ∈ r → x ∈ names) (hc : ∀ (i : Nat) (x y : Str), r[i]? = some x → r[i + 1]? = some y → SP ps x y) : r.length ≤ names.length := by
  obtain ⟨rank, hrank⟩ := hf.2.2.2.2
  refine KN.nodup_len (List.pairwise_iff_getElem.mpr fun i j hi hj hij e => ?_) hn
  have := chain_lt (SP.trans ps) hc (i := i) (List.getElem?_eq_getElem hi) (j - i - 1) r[j] (by rw [show i + 1 + (j - i - 1) = j by omega]; exact List.getElem?_eq_getElem hj)
  rw [e] at this
  obtain ⟨u, p⟩ := this
  exact Nat.lt_irrefl _ (p.up hrank)
theorem flat_len {α : Type} {n : Nat} : ∀ {rs : List (List α)}, (∀ r, r ∈ rs → r.length ≤ n) → rs.flatten.length ≤ rs.length * n
  | [], _ => by simp
  | r :: rs, h => by
    have h1 := h r List.mem_cons_self
    have h2 := flat_len (rs := rs) fun q hq => h q (List.mem_cons_of_mem _ hq)
    rw [List.flatten_cons, List.length_append, List.length_cons, Nat.add_mul]
    omega
theorem strs_cmp (l : List Str) : cmpD (.lst (l.map D.str)) = true := cmpDs_all fun d hd => by
  obtain ⟨z, _, rfl⟩ := List.mem_map.mp hd
  rfl
theorem strs_clean (l : List Str) : cleanD (.lst (l.map D.str)) = true := cleanDs_all fun d hd => by
  obtain ⟨z, _, rfl⟩ := List.mem_map.mp hd
  rfl
theorem strs_shaped {l : List Str} (h : ∀ z, z ∈ l → PyData.strOk z = true) : SeqAt.shaped (pyD (.lst (l.map D.str))) = true := by
  unfold SeqAt.shaped
  rw [pyD, pyDs_map, PyData.canLay0, PyData.depth, Bool.and_eq_true]
  refine ⟨canLay_all fun d hd => ?_, decide_eq_true ?_⟩
  · obtain ⟨z, hz, rfl⟩ := List.mem_map.mp hd
    rw [pyD, PyData.canLay0]
    exact h z hz
  · have := depth_all (n := 0) (l := l.map fun x => pyD (.str x)) fun d hd => by
      obtain ⟨z, hz, rfl⟩ := List.mem_map.mp hd
      rw [pyD, PyData.depth]
      exact Nat.le_refl _
    omega
/-! ### is_covering -/
abbrev sis_covering : Stmt := topS 19
theorem scis_covering : FnScope ["bare", "thing", "table", "names", "row", "name"] ["bare", "thing"] (defScope sis_covering) := ⟨rfl, rfl, rfl, by decide +kernel, rfl, by decide +kernel, by decide +kernel⟩
/-- a bare list that is in order -/
structure Bare (names : List Str) (ps : List (Str × Str)) : Prop where
  f : Fits names (one3 ps)
  z : names.length ≤ 90
  t : ps.length ≤ 200
  a : ascL ltStr names = true
  ok : ∀ x, x ∈ names → PyData.strOk x = true
  ne : ∀ x, x ∈ names → x ≠ Str.ofString ""
def CovD (names : List Str) (S : Str → Str → Prop) (t : D) : Prop := ∃ rs : List (List Str), t = .tup (rs.map tupD) ∧ Cover names S rs ∧ ascL ltS rs = true
def FIsC (xs : List AB.A) (ρ : Sto) (R : QA) : Prop := ∃ names ps t, xs = [.d (bareD names ps), .d t] ∧ Bare names ps ∧ Th2 t ∧ ∀ b : Bool, (b = true ↔ ∃ rs : List (List Str), t = .tup (rs.map tupD) ∧ Cover names (SP ps) rs ∧ ascL ltS rs = true ∧ Best names (SP ps) rs.length) → R (.d (.bl b)) ρ
theorem rows_inj : ∀ {a b : List (List Str)}, a.map tupD = b.map tupD → a = b
  | [], [], _ => rfl
  | [], _ :: _, h => by cases h
  | _ :: _, [], h => by cases h
  | x :: a, y :: b, h => by
    rw [List.map_cons, List.map_cons] at h
    injection h with h1 h2
    rw [tupD_inj h1, rows_inj h2]
theorem rows_of {names : List Str} {S : Str → Str → Prop} : ∀ {l : List D}, (∀ x ∈ l, RowD names S x) → ∃ rs : List (List Str), l = rs.map tupD ∧ ∀ r, r ∈ rs → r ≠ [] ∧ (∀ x, x ∈ r → x ∈ names) ∧ ∀ (i : Nat) (x y : Str), r[i]? = some x → r[i + 1]? = some y → S x y
  | [], _ => ⟨[], rfl, fun r h => by simp at h⟩
  | d :: l, h => by
    obtain ⟨rs, rfl, hr⟩ := rows_of (l := l) fun x hx => h x (List.mem_cons_of_mem _ hx)
    obtain ⟨r, rfl, h1⟩ := h d List.mem_cons_self
    refine ⟨r :: rs, rfl, fun q hq => ?_⟩
    rcases List.mem_cons.mp hq with z | z
    · rw [z]
      exact h1
    · exact hr q z
theorem dec_of {p : Prop} [Decidable p] {b : Bool} (h : b = true ↔ p) : b = decide p := by
  by_cases c : p
  · rw [decide_eq_true c]
    exact h.mpr c
  · rw [decide_eq_false c]
    cases b with
    | false => rfl
    | true => exact absurd (h.mp rfl) c
open Classical in
theorem ok_isc {f : Addr} {fd : FuncData} (F : Fun K "is_covering" "is_covering" sis_covering f fd) (T : Txt8 K mg) : FnOk P w K mg base CX0 5 f fd ["bare", "thing"] (spA FIsC) := by
  have Gbehind_table : FnOk P w K mg base CX0 3 T.dbehind_table.f T.dbehind_table.fd ["bare"] (spA FBeh) := ok_beh T.dbehind_table.F T.toTxt2
  have Gwidest_of : FnOk P w K mg base CX0 4 T.dwidest_of.f T.dwidest_of.fd ["bare"] (spA FWid) := ok_wid T.dwidest_of.F T.toTxt5
  have Gis_row : FnOk P w K mg base CX0 1 T.dis_row.f T.dis_row.fd ["table", "thing"] (spA FIsR) := ok_isr T.dis_row.F T.toTz
  have Gascends : FnOk P w K mg base CX0 1 T.dascends.f T.dascends.fd ["row"] (spA FAsc) := ok_ascends T.dascends.F T.toTz
  refine F.ok scis_covering (spA_len fun xs ρ R h => ?_) (fun cdv Ar outer s H vs Q E hr h => ?_)
  · obtain ⟨_, _, _, rfl, _⟩ := h
    rfl
  · have hu : _ + 1 < cLine := hu_of hr
    have hu64 : _ + 64 < cLine := hr.units
    refine ⟨_, (pss_cons (ps_set (i := 2) scis_covering.nd rfl (Or.inr rfl) (pe_call Gbehind_table (hr.mono (by first | decide | omega)) rfl T.dbehind_table.g T.dbehind_table.k T.dbehind_table.b .nil pass0 (pa_cons (pv 0) pa_nil)))
  (pss_cons (ps_if (PW.pt (pw_or (pt_not (pt_val (pe_callB call_isA (by rfl) T.z_isinstance bt_isinstance (pa_cons (pv 1) (pa_cons (pe_bltn (by rfl) T.z_tuple (v := .ty "tuple") bt_tuple rfl) pa_nil))))) (pw_or (pt_not (pt_val (pe_callB (cr_all rfl) (by rfl) T.z_all bt_all (pa_cons (pe_lc (own := [("row", 4)]) rfl scis_covering.nd (pi_tup (pv 1)) (blkOk_by (N := ["bare", "thing", "table", "names", "row", "name"]) (sc := defScope sis_covering) (by decide +kernel)) (fun _ _ _ _ _ => (pg_name (i := 4) scis_covering.nd rfl (Or.inl rfl))) (fun _ _ _ _ _ => pts_nil) (fun _ _ _ _ _ => (pe_call Gis_row (hr.mono (by first | decide | omega)) rfl T.dis_row.g T.dis_row.k T.dis_row.b .nil pass0 (pa_cons (pv 2) (pa_cons (pv 4) pa_nil))))) pa_nil)))) (pw_or1 (pt_not (pt_val (pe_call Gascends (hr.mono (by first | decide | omega)) rfl T.dascends.g T.dascends.k T.dascends.b .nil pass0 (pa_cons (pv 1) pa_nil)))))))) (pss_one (ps_ret pe_bl))
  pss_nil)
  (pss_cons (ps_setLc2 (wi1 := iTup K (tVar 4)) (own := [("row", 4), ("name", 5)]) (vs1 := [5]) (i := 3) rfl scis_covering.nd rfl rfl (sw_true rfl rfl rfl (by decide +kernel)) (pi_tup (pv 1)) (blkOk_by (N := ["bare", "thing", "table", "names", "row", "name"]) (sc := defScope sis_covering) (by decide +kernel)) (by decide) (fun _ _ _ _ _ => (pg_name (i := 4) scis_covering.nd rfl (Or.inl rfl))) (fun _ _ _ _ _ => pts_nil) (fun _ _ _ _ _ => (pi_tup (pv 4))) (fun _ _ _ _ _ => (pg_name (i := 5) scis_covering.nd rfl (Or.inl rfl))) (fun _ _ _ _ _ => pts_nil) (fun _ _ _ _ _ => (pv 5)))
  (pss_one (ps_ret (pe_and (pe_cmpR (op_eqD hu64) (pe_callB cr_sortedSS (by rfl) T.z_sorted bt_sorted (pa_cons (pv 3) pa_nil)) (pe_callTy call_list_of (by rfl) T.z_list bt_list (pa_cons (pe_ix ix_tup (pv 0) pe_int (fun _ _ => rfl)) pa_nil)) (nomark _)) (pe_one (pe_cmpR op_eq (pe_callB call_len_seq (by rfl) T.z_len bt_len (pa_cons (pv 1) pa_nil)) (pe_callB call_len_seq (by rfl) T.z_len bt_len (pa_cons (pe_call Gwidest_of (hr.mono (by first | decide | omega)) rfl T.dwidest_of.g T.dwidest_of.k T.dwidest_of.b .nil pass0 (pa_cons (pv 0) pa_nil)) pa_nil)) (nomark _))))))))), body_of h fun ρ xs R hF => ?_⟩
    obtain ⟨names, ps, t, rfl, hB, hth, k⟩ := hF
    have no : ¬ CovD names (SP ps) t → R (.d (.bl false)) ρ := fun h => k false ⟨fun z => (by cases z), fun ⟨rs, a, b, c, _⟩ => (h ⟨rs, a, b, c⟩).elim⟩
    repeat (first | with_reducible refine ws_seq ?_ | with_reducible refine ws_asg ?_ | refine we_var rfl ?_ | with_reducible refine wa_cons ?_ | with_reducible refine wa_nil ?_ | with_reducible refine we_call ?_)
    refine ⟨names, ps, rfl, hB.f, fun rows ht => ?_⟩
    repeat (first | with_reducible refine ws_seq ?_ | with_reducible refine ws_if ?_ | with_reducible refine wg_name ?_ | refine we_var rfl ?_ | with_reducible refine wa_cons ?_ | with_reducible refine wa_nil ?_ | with_reducible refine we_cb ?_ | with_reducible refine wt_B ?_ | with_reducible refine wt_not ?_ | with_reducible refine wt_or ?_ | with_reducible refine we_ty ?_)
    refine on_is hth.p (kb_tup t hth.p) ?_
    repeat (first | refine ⟨_, (rfl : AB.A.d (D.bl _) = _), ?_⟩)
    refine ⟨fun c => ?_, fun c => ?_⟩
    · skip
      refine ⟨fun _ => ?_, fun c => (by cases c)⟩
      with_reducible repeat (first | refine ws_ret ?_ | refine we_bl ?_)
      refine ⟨_, AB.Sub.refl _, no fun ⟨r, e, _⟩ => ?_⟩
      rw [e] at c
      cases c
    · obtain ⟨l, rfl⟩ := isTup_iff.mp (by simpa using c)
      obtain ⟨hll, hpl⟩ := hth.l l rfl
      with_reducible repeat (first | refine wa_cons ?_ | refine we_cb ?_ | refine wt_B ?_ | refine wt_not ?_ | refine wt_or ?_)
      refine we_lcF (wi_tup ?_)
      repeat (first | refine we_var rfl ?_)
      refine ⟨l, rfl, D, l, id, fun d => .bl (decide (RowD names (SP ps) d)), fun _ => true, by rw [List.map_id], fun _ _ => trivial, by omega, fun n hn ρx sb => ?_, ?_⟩
      · refine wgv_name (by decide) ⟨rfl, wt_yes ⟨rfl, rfl, fun _ => ?_⟩⟩
        repeat (first | refine we_var rfl ?_ | with_reducible refine wa_cons ?_ | with_reducible refine wa_nil ?_ | with_reducible refine we_call ?_)
        exact ⟨names, ps, rows, n, rfl, hB.f, ht, hpl n hn, fun b hb => ⟨rfl, by rw [dec_of hb]⟩⟩
      · rw [nocut]
        with_reducible repeat (first | refine wa_nil ?_)
        refine on_all (bs := l.map fun d => decide (RowD names (SP ps) d)) (by rw [show l.map (fun d => D.bl (decide (RowD names (SP ps) d))) = (l.map fun d => decide (RowD names (SP ps) d)).map D.bl by rw [List.map_map]; rfl]; exact lsd) ?_
        repeat (first | refine ⟨_, (rfl : AB.A.d (D.bl _) = _), ?_⟩)
        refine ⟨fun c2 => ?_, fun c2 => ?_⟩
        · skip
          refine ⟨fun _ => ?_, fun c => (by cases c)⟩
          with_reducible repeat (first | refine ws_ret ?_ | refine we_bl ?_)
          refine ⟨_, AB.Sub.refl _, no fun ⟨rs, e, hc, _⟩ => ?_⟩
          have e' := D.tup.inj e
          subst e'
          have : ((rs.map tupD).map fun d => decide (RowD names (SP ps) d)).all id = true := List.all_eq_true.mpr fun b hb => by
            obtain ⟨d, hd, rfl⟩ := List.mem_map.mp hb
            obtain ⟨r, hr, rfl⟩ := List.mem_map.mp hd
            exact decide_eq_true ⟨r, rfl, hc.ne r hr, fun x hx => hc.perm.mem_iff.mp (List.mem_flatten.mpr ⟨r, hr, hx⟩), hc.ch r hr⟩
          rw [this] at c2
          cases c2
        · have hall : ∀ x ∈ l, RowD names (SP ps) x := fun x hx => by
            have : (l.map fun d => decide (RowD names (SP ps) d)).all id = true := by simpa using c2
            exact of_decide_eq_true (List.all_eq_true.mp this _ (List.mem_map.mpr ⟨x, hx, rfl⟩))
          obtain ⟨rs, rfl, hrs⟩ := rows_of hall
          have hrl : ∀ r, r ∈ rs → r.length ≤ 90 := fun r hr => Nat.le_trans (row_len hB.f (hrs r hr).2.1 (hrs r hr).2.2) hB.z
          rw [List.length_map] at hll
          have hfl : rs.flatten.length ≤ 90000 := by
            have := flat_len hrl
            omega
          repeat (first | refine we_var rfl ?_ | with_reducible refine wa_cons ?_ | with_reducible refine wa_nil ?_ | with_reducible refine wt_B ?_ | with_reducible refine wt_not ?_ | with_reducible refine we_call ?_)
          refine ⟨rs.map tupD, rfl, by rw [List.length_map]; omega, .inr ⟨rs, rfl, ?_⟩⟩
          repeat (first | refine ⟨_, (rfl : AB.A.d (D.bl _) = _), ?_⟩)
          refine ⟨fun c3 => ?_, fun c3 => ?_⟩
          · with_reducible repeat (first | refine ws_ret ?_ | refine we_bl ?_)
            refine ⟨_, AB.Sub.refl _, no fun ⟨rs', e, _, ha⟩ => ?_⟩
            rw [rows_inj (D.tup.inj e), ha] at c3
            cases c3
          · have hasc : ascL ltS rs = true := by simpa using c3
            with_reducible repeat (first | refine ws_seq ?_ | refine ws_asg ?_ | refine ws_next ?_)
            refine we_lc2F (wi_tup ?_)
            repeat (first | refine we_var rfl ?_)
            refine ⟨_, rfl, List Str, rs, tupD, fun _ => true, fun r => r.map D.str, rfl, fun _ _ => trivial, ?_, fun n hn ρx sb => ?_, ?_⟩
            · rw [nocut, List.flatMap_def, ← List.map_flatten, List.length_map]
              omega
            · refine wgv_name (by decide) ⟨rfl, wt_yes ⟨rfl, rfl, fun _ => ?_⟩⟩
              refine wi_tup ?_
              repeat (first | refine we_var rfl ?_)
              refine ⟨_, rfl, rfl, Str, n, D.str, D.str, fun _ => true, rfl, by rw [nocut], fun _ _ => trivial, fun m hm ρy sb => ?_⟩
              refine wgv_name (by decide) ⟨rfl, wt_yes ⟨rfl, rfl, fun _ => ?_⟩⟩
              repeat (first | refine we_var rfl ?_)
              exact ⟨rfl, rfl⟩
            · rw [nocut, List.flatMap_def, ← List.map_flatten]
              repeat (first | with_reducible refine ws_ret ?_ | with_reducible refine wg_name ?_ | with_reducible refine we_op ?_ | refine we_var rfl ?_ | with_reducible refine wa_cons ?_ | with_reducible refine wa_nil ?_ | with_reducible refine we_cb ?_ | with_reducible refine we_andV ?_)
              refine on_sortedSS lsd fun zs hp hso => ?_
              repeat (first | with_reducible refine we_op ?_ | refine we_var rfl ?_ | with_reducible refine we_int ?_ | with_reducible refine wa_cons ?_ | with_reducible refine we_cb ?_)
              refine o2_ixT (i := ((0 : Nat) : Int)) (z := .tup (names.map D.str)) (atI_nat' rfl) ?_
              with_reducible repeat (first | refine wa_nil ?_)
              refine on_listT ?_
              have hzn : ∀ z, z ∈ zs → z ∈ names := fun z hz => by
                obtain ⟨r, hr, hz'⟩ := List.mem_flatten.mp (hp.mem_iff.mp hz)
                exact (hrs r hr).2.1 z hz'
              refine o2_eqDD (strs_cmp _) (strs_cmp _) (strs_shaped fun z hz => hB.ok z (hzn z hz)) (strs_shaped hB.ok) ?_
              refine ⟨_, rfl, fun c4 => ?_, fun c4 => ?_⟩
              · have e4 : zs = names := strs_inj (D.lst.inj ((clean_eq _ _ (strs_clean _) (strs_clean _)).mp c4))
                have hcov : Cover names (SP ps) rs := ⟨by rw [← e4]; exact hp.symm, fun r hr => (hrs r hr).1, fun r hr => (hrs r hr).2.2⟩
                repeat (first | with_reducible refine we_op ?_ | refine we_var rfl ?_ | with_reducible refine wa_cons ?_ | with_reducible refine wa_nil ?_ | with_reducible refine we_cb ?_ | with_reducible refine we_call ?_ | with_reducible refine on_lenT ?_)
                refine ⟨names, ps, rfl, hB.f, fun ws hwa hwb _ => ?_⟩
                with_reducible repeat (first | refine wa_nil ?_ | refine o2_eqI ?_ | refine on_lenT ?_)
                refine ⟨_, AB.Sub.refl _, k _ ?_⟩
                rw [List.length_map, List.length_map, decide_eq_true_eq]
                constructor
                · intro e
                  have e : rs.length = ws.length := by omega
                  exact ⟨rs, rfl, hcov, hasc, by rw [e]; exact hwb⟩
                · rintro ⟨rs', e, _, _, hb'⟩
                  have := rows_inj (D.tup.inj e)
                  subst this
                  exact congrArg _ (hb'.one (SP.trans ps) hwb)
              · refine ⟨_, AB.Sub.refl _, no fun ⟨rs', e, hc, _⟩ => ?_⟩
                have := rows_inj (D.tup.inj e)
                subst this
                have e4 : zs = names := srt_one tri_str (hp.trans hc.perm) hso (asc_srt (lt := ltStr) ltStr_trans ltStr_as hB.a)
                rw [(clean_eq _ _ (strs_clean _) (strs_clean _)).mpr (by rw [e4])] at c4
                cases c4
end
end K82
set_option Elab.async false
set_option linter.all false
set_option maxRecDepth 100000
set_option maxHeartbeats 4000000
namespace K82
open PySem PySem.Spec PyProof.Rows L2 Evl HB AB KX SrtO
section
variable {P : Program} {w : World} {K : PySem.W.Frag} {mg : Str → Option Value} {base : Heap}
/-! ### _law_pool -/
abbrev s_law_pool : Stmt := topS 21
theorem sc_law_pool : FnScope ["script", "seed", "great", "cell", "at"] ["script"] (defScope s_law_pool) := ⟨rfl, rfl, rfl, by decide +kernel, rfl, by decide +kernel, by decide +kernel⟩
def FPool (K : PySem.W.Frag) (xs : List AB.A) (ρ : Sto) (R : QA) : Prop := ∃ ns : List Int, xs = [.s K ns] ∧ ∀ (p : Addr) (ms : List Int), ρ p = none → ms ≠ [] → ms.length ≤ 1000 → R (.m p) (pu ρ p (intM ms))
theorem ok_pool {f : Addr} {fd : FuncData} (F : Fun K "_law_pool" "_law_pool" s_law_pool f fd) (T : Tz mg) : FnOk P w K mg base CX0 1 f fd ["script"] (spA (FPool K)) := by
  refine F.ok sc_law_pool (spA_len fun xs ρ R h => ?_) (fun cdv Ar outer s H vs Q E hr h => ?_)
  · obtain ⟨_, rfl, _⟩ := h
    rfl
  · have hu : _ + 1 < cLine := hu_of hr
    refine ⟨_, (pss_cons (ps_set (i := 1) sc_law_pool.nd rfl (Or.inl rfl) pe_int)
  (pss_cons (ps_set (i := 2) sc_law_pool.nd rfl (Or.inr rfl) (pe_lst pa_nil))
  (pss_cons (ps_for PassesOwn.never rfl (pi_list (pe_slice sl_list (pv 0) po_none (po_some pe_int))) (pg_name (i := 3) sc_law_pool.nd rfl (Or.inl rfl))
  (pss_cons (ps_set (i := 3) sc_law_pool.nd rfl (Or.inl rfl) (pe_op op_mod (pe_callTy call_int1 (by rfl) T.z_int bt_int (pa_cons (pv 3) pa_nil)) (pe_op op_powW (pe_op op_powW pe_int pe_int) pe_int)))
  (pss_cons (ps_set (i := 1) sc_law_pool.nd rfl (Or.inl rfl) (pe_op op_mod (pe_op op_add (pe_op op_add (pe_op op_mul (pv 1) pe_int) (pe_op op_mod (pv 3) pe_int)) pe_int) pe_int))
  (pss_one (ps_if (pt_cmpR op_ge (pv 3) (pe_op op_powW pe_int pe_int) (nomark _)) (pss_one (ps_expr (pe_bm PySem.F.plainAttrs_list PySem.F.slot_list_append PySem.F.type_list_append mt_append (pv 2) (pa_cons (pv 3) pa_nil))))
  pss_nil)))))
  (pss_one (ps_ret (pe_op op_cat (pe_lst (pa_cons (pv 1) pa_nil)) (pe_lc (own := [("at", 4)]) rfl sc_law_pool.nd (pi_range1 (by rfl) T.z_range (pa_cons (pe_callB call_len_seq (by rfl) T.z_len bt_len (pa_cons (pv 2) pa_nil)) pa_nil)) (blkOk_by (N := ["script", "seed", "great", "cell", "at"]) (sc := defScope s_law_pool) (by decide +kernel)) (fun _ _ _ _ _ => (pg_name (i := 4) sc_law_pool.nd rfl (Or.inl rfl))) (fun _ _ _ _ _ => pts_nil) (fun _ _ _ _ _ => (pe_ix (ixR_K (r := rIxL) (K := K) rfl ix_list) (pv 2) (pe_op op_sub (pe_op op_sub (pe_callB (callR_K (r := rLenK) (K := K) rfl call_len_seq) (by rfl) T.z_len bt_len (pa_cons (pv 2) pa_nil)) pe_int) (pv 4)) (fun _ _ => rfl)))))))))), body_of h fun ρ xs R hF => ?_⟩
    obtain ⟨ns, rfl, k⟩ := hF
    with_reducible repeat (first | refine ws_seq ?_ | refine ws_asg ?_ | refine wg_name ?_ | refine we_int ?_)
    refine we_lstM ?_
    with_reducible repeat (first | refine wa_nil ?_)
    refine ⟨by show 0 ≤ 100000; decide, fun ga hga => ?_⟩
    with_reducible repeat (first | refine ws_seq ?_ | refine wg_name ?_)
    refine ws_for (wi_list (we_sl ?_))
    repeat (first | refine we_var rfl ?_ | with_reducible refine we_int ?_ | with_reducible refine wo_none ?_ | with_reducible refine wo_some ?_ | refine ⟨_, (rfl : AB.A.d (D.int _) = _), ?_⟩)
    refine o3_scr ?_
    rw [cutD_map, show (63 : Int) = ((63 : Nat) : Int) from rfl, cutA_to]
    refine ⟨_, lsd, fun i γ ρ' => ∃ (sd : Int) (v3 : Option AB.A) (gs : List Int), γ = [some (.s K ns), some (.d (.int sd)), some (.m ga), v3, none] ∧ ρ' = pu ρ ga (intM gs) ∧ gs.length ≤ i, ?_, fun _ _ _ _ _ => lsd, ?_, ?_⟩
    · exact ⟨_, _, [], rfl, rfl, Nat.le_refl _⟩
    · rintro i y γ ρ' ey ⟨sd, v3, gs, rfl, rfl, hg⟩
      obtain ⟨c, ec, rfl⟩ := at_src ey
      have hi : i < 63 := by
        have := (List.getElem?_eq_some_iff.mp ec).1
        rw [List.length_take] at this
        omega
      refine wg_name ?_
      repeat (first | with_reducible refine ws_seq ?_ | with_reducible refine ws_asg ?_ | with_reducible refine wg_name ?_ | with_reducible refine we_op ?_ | refine we_var rfl ?_ | with_reducible refine we_int ?_ | with_reducible refine wa_cons ?_ | with_reducible refine wa_nil ?_ | with_reducible refine we_cb ?_ | ((refine o2_I (fun _ => Rep.int _) ?_ ?_); (· first | assumption | decide | omega | (constructor <;> first | omega | decide))) | with_reducible refine on_int ?_)
      refine o2_I (fun _ => Rep.int _) (.inr (by decide)) ?_
      repeat (first | with_reducible refine ws_if ?_ | with_reducible refine wg_name ?_ | with_reducible refine we_op ?_ | refine we_var rfl ?_ | with_reducible refine we_int ?_ | with_reducible refine wt_test ?_ | refine ⟨_, (rfl : AB.A.d (D.bl _) = _), ?_⟩ | refine o2_I0 (fun _ => Rep.int _) ?_ | refine o2_I0 (fun _ => Rep.bl _) ?_ | ((refine o2_I (fun _ => Rep.int _) ?_ ?_); (· first | assumption | decide | omega | (constructor <;> first | omega | decide))))
      refine ⟨fun b => ?_, fun b => ?_⟩
      · with_reducible repeat (first | refine ws_drop ?_)
        refine we_bm ?_
        repeat (first | refine we_var rfl ?_)
        refine ⟨ty_lst pu_same, ?_⟩
        repeat (first | refine we_var rfl ?_ | with_reducible refine wa_cons ?_ | with_reducible refine wa_nil ?_)
        refine on_append pu_same (by rw [List.length_map]; omega) ?_
        rw [pu_pu]
        refine ⟨_, _, gs ++ [_], rfl, by unfold intM; rw [List.map_append]; rfl, by rw [List.length_append, List.length_singleton]; omega⟩
      · with_reducible repeat (first | refine ws_next ?_)
        exact ⟨_, _, gs, rfl, rfl, by omega⟩
    · rintro γ ρ' ⟨sd, v3, gs, rfl, rfl, hg⟩
      have hg63 : gs.length ≤ 63 := by
        rw [src_len, List.length_take] at hg
        omega
      refine ws_ret ?_
      with_reducible repeat (first | refine we_op ?_)
      refine we_lst ?_
      repeat (first | refine we_var rfl ?_ | with_reducible refine wa_cons ?_ | with_reducible refine wa_nil ?_)
      refine ⟨[.int sd], rfl, (by show 1 ≤ 100000; decide), ?_⟩
      refine we_lcF (wi_rng1 ?_)
      repeat (first | refine we_var rfl ?_ | with_reducible refine wa_cons ?_ | with_reducible refine wa_nil ?_ | with_reducible refine we_cb ?_)
      refine on_len (lsm pu_same) ?_
      with_reducible repeat (first | refine wa_nil ?_)
      rw [List.length_map]
      refine ⟨_, rfl, by omega, ?_⟩
      rw [rgA_src, Int.toNat_natCast]
      refine ⟨Nat, List.range gs.length, fun i => D.int (0 + (i : Nat)), fun i => D.int (gs.getD (gs.length - 1 - i) 0), fun _ => true, rfl, fun _ _ => trivial, by rw [List.length_range]; omega, fun n hn ρx sb => ?_, ?_⟩
      · have hn := List.mem_range.mp hn
        refine wgv_name (by decide) ⟨rfl, wt_yes ⟨rfl, rfl, fun _ => ?_⟩⟩
        repeat (first | with_reducible refine we_op ?_ | refine we_var rfl ?_ | with_reducible refine wa_cons ?_ | with_reducible refine wa_nil ?_ | with_reducible refine we_cb ?_)
        refine on_len (lsm (sb _ _ pu_same)) ?_
        repeat (first | refine we_var rfl ?_ | with_reducible refine we_int ?_ | refine o2_I0 (fun _ => Rep.int _) ?_)
        refine o2_ixL (z := .d (.int (gs.getD (gs.length - 1 - n) 0))) (lsm (sb _ _ pu_same)) (by
          rw [List.length_map, show ((gs.length : Nat) : Int) - 1 - (0 + (n : Nat)) = ((gs.length - 1 - n : Nat) : Int) by omega]
          refine atI_nat' ?_
          rw [List.getElem?_map, List.getElem?_eq_getElem (show gs.length - 1 - n < gs.length by omega), List.getD_eq_getElem?_getD, List.getElem?_eq_getElem (show gs.length - 1 - n < gs.length by omega)]
          rfl) ?_
        exact ⟨rfl, rfl⟩
      · rw [nocut]
        refine o2_catM lsd lsd (by rw [List.length_map, src_len, List.length_range]; show 1 + _ ≤ _; omega) fun p hp => ?_
        have hp0 : ρ p = none := none_of ((AB.Sub.refl ρ).new hga) hp
        have hpg : p ≠ ga := fun z => by rw [z, pu_same] at hp; cases hp
        refine ⟨pu ρ p (intM (sd :: (List.range gs.length).map fun i => gs.getD (gs.length - 1 - i) 0)), ?_, k p _ hp0 (by simp) (by simp; omega)⟩
        have := sub_two (u := intM (sd :: (List.range gs.length).map fun i => gs.getD (gs.length - 1 - i) 0)) (o := intM gs) hga hpg
        unfold intM at this ⊢
        rw [List.map_cons, List.map_map] at this
        rw [List.map_cons, List.map_map, List.map_map]
        exact this
end
end K82
set_option Elab.async false
set_option linter.all false
set_option maxRecDepth 100000
set_option maxHeartbeats 4000000
namespace K82
open PySem PySem.Spec PyProof.Rows L2 Evl HB AB KX SrtO
structure Txt9 (K : PySem.W.Frag) (mg : Str → Option Value) extends Txt8 K mg where
  d_law_draw : Fd K mg "_law_draw" s_law_draw ["pool", "many"]
section
variable {P : Program} {w : World} {K : PySem.W.Frag} {mg : Str → Option Value} {base : Heap}
theorem map_erase {α β : Type} (f : α → β) (l : List α) (j : Nat) : (l.map f).eraseIdx j = (l.eraseIdx j).map f := by
  rw [List.eraseIdx_eq_take_drop_succ, List.eraseIdx_eq_take_drop_succ, List.map_append, List.map_take, List.map_drop]
theorem erase_perm {α : Type} : ∀ {l : List α} {j : Nat} (h : j < l.length), (l[j] :: l.eraseIdx j).Perm l
  | x :: l, 0, _ => List.Perm.refl _
  | x :: l, j + 1, h => by
    have h' : j < l.length := by simpa using h
    show (l[j] :: x :: l.eraseIdx j).Perm (x :: l)
    exact (List.Perm.swap x _ _).trans ((erase_perm (l := l) (j := j) h').cons x)
/-! ### _law_order -/
abbrev s_law_order : Stmt := topS 23
theorem sc_law_order : FnScope ["pool", "many", "left", "at", "lap"] ["pool", "many"] (defScope s_law_order) := ⟨rfl, rfl, rfl, by decide +kernel, rfl, by decide +kernel, by decide +kernel⟩
/-- the pool may have changed -/
def Drawn (ρ : Sto) (p : Addr) (ρ' : Sto) : Prop := ∃ ns : List Int, ns ≠ [] ∧ ns.length ≤ 1000 ∧ ρ' = pu ρ p (intM ns)
def PoolAt (ρ : Sto) (p : Addr) : Prop := ∃ ns : List Int, ns ≠ [] ∧ ns.length ≤ 1000 ∧ ρ p = some (intM ns)
theorem FDraw.of {ρ : Sto} {p : Addr} {m : Int} {R : QA} (h : PoolAt ρ p) (hm : 0 < m) (hm2 : m < 1073741824) (k : ∀ (r : Int) (ρ' : Sto), 0 ≤ r → r < m → Drawn ρ p ρ' → R (.d (.int r)) ρ') : FDraw [.m p, .d (.int m)] ρ R := by
  obtain ⟨ns, h1, h2, h3⟩ := h
  exact ⟨p, ns, m, rfl, h3, h1, h2, hm, hm2, fun r ns' h4 h5 h6 h7 => k r _ h4 h5 ⟨ns', h6, h7, rfl⟩⟩
theorem Drawn.at_ {ρ ρ' : Sto} {p : Addr} (h : Drawn ρ p ρ') : PoolAt ρ' p := by
  obtain ⟨ns, h1, h2, rfl⟩ := h
  exact ⟨ns, h1, h2, pu_same⟩
theorem Drawn.ne {ρ ρ' : Sto} {p a : Addr} (h : Drawn ρ p ρ') (n : a ≠ p) : ρ' a = ρ a := by
  obtain ⟨ns, h1, h2, rfl⟩ := h
  exact pu_ne n
theorem Drawn.trans {ρ ρ' ρ'' : Sto} {p : Addr} (h : Drawn ρ p ρ') (k : Drawn ρ' p ρ'') : Drawn ρ p ρ'' := by
  obtain ⟨ns, h1, h2, rfl⟩ := h
  obtain ⟨ms, k1, k2, rfl⟩ := k
  exact ⟨ms, k1, k2, pu_pu⟩
theorem Drawn.refl {ρ : Sto} {p : Addr} (h : PoolAt ρ p) : Drawn ρ p ρ := by
  obtain ⟨ns, h1, h2, h3⟩ := h
  refine ⟨ns, h1, h2, ?_⟩
  funext a
  by_cases e : a = p
  · rw [e, pu_same, h3]
  · rw [pu_ne e]
/-- the store is as before, but for the pool and new things -/
structure Dr (ρ : Sto) (p : Addr) (ρ' : Sto) : Prop where
  pool : PoolAt ρ' p
  old : ∀ a u, a ≠ p → ρ a = some u → ρ' a = some u
theorem Dr.refl {ρ : Sto} {p : Addr} (h : PoolAt ρ p) : Dr ρ p ρ := ⟨h, fun _ _ _ e => e⟩
theorem Dr.new {ρ ρ' : Sto} {p a : Addr} {o : Mo} (h : Dr ρ p ρ') (ha : ρ a = none) (hp : a ≠ p) : Dr ρ p (pu ρ' a o) := by
  obtain ⟨⟨ns, h1, h2, h3⟩, ho⟩ := h
  refine ⟨⟨ns, h1, h2, by rw [pu_ne (Ne.symm hp)]; exact h3⟩, fun b u hb e => ?_⟩
  rw [pu_ne (ne_pu e ha)]
  exact ho b u hb e
theorem Dr.drawn {ρ ρ' ρ'' : Sto} {p : Addr} (h : Dr ρ p ρ') (k : Drawn ρ' p ρ'') : Dr ρ p ρ'' :=
  ⟨k.at_, fun b u hb e => by rw [k.ne hb]; exact h.old b u hb e⟩
/-- leaving: what is told of the caller's store -/
theorem Dr.out {ρ ρ' : Sto} {p : Addr} (h : Dr ρ p ρ') : ∃ ρ2, AB.Sub ρ2 ρ' ∧ Drawn ρ p ρ2 := by
  obtain ⟨⟨ns, h1, h2, h3⟩, ho⟩ := h
  refine ⟨pu ρ p (intM ns), fun a u e => ?_, ns, h1, h2, rfl⟩
  by_cases c : a = p
  · rw [c, pu_same] at e
    rw [c, h3]
    exact e
  · rw [pu_ne c] at e
    exact ho a u c e
theorem Dr.none_ {ρ ρ' : Sto} {p a : Addr} (h : Dr ρ p ρ') (hn : ρ' a = none) : ρ a = none ∧ a ≠ p := by
  have hp : a ≠ p := fun z => by
    obtain ⟨ns, _, _, e⟩ := h.pool
    rw [z, e] at hn
    cases hn
  refine ⟨?_, hp⟩
  cases e : ρ a with
  | none => rfl
  | some u =>
    rw [h.old a u hp e] at hn
    cases hn
def FOrder (xs : List AB.A) (ρ : Sto) (R : QA) : Prop := ∃ (p : Addr) (n : Nat), xs = [.m p, .d (.int (n : Nat))] ∧ PoolAt ρ p ∧ n ≤ 1000 ∧ ∀ (os : List Nat) ρ', os.Perm (List.range n) → Drawn ρ p ρ' → R (.d (.lst (os.map fun i => D.int (i : Nat)))) ρ'
theorem ok_order {f : Addr} {fd : FuncData} (F : Fun K "_law_order" "_law_order" s_law_order f fd) (T : Txt9 K mg) : FnOk P w K mg base CX0 2 f fd ["pool", "many"] (spA FOrder) := by
  have G_law_draw : FnOk P w K mg base CX0 1 T.d_law_draw.f T.d_law_draw.fd ["pool", "many"] (spA FDraw) := ok_draw T.d_law_draw.F T.toTz
  refine F.ok sc_law_order (spA_len fun xs ρ R h => ?_) (fun cdv Ar outer s H vs Q E hr h => ?_)
  · obtain ⟨_, _, rfl, _⟩ := h
    rfl
  · have hu : _ + 1 < cLine := hu_of hr
    refine ⟨_, (pss_cons (ps_set (i := 2) sc_law_order.nd rfl (Or.inr rfl) (pe_lc (own := [("at", 3)]) rfl sc_law_order.nd (pi_range1 (by rfl) T.z_range (pa_cons (pv 1) pa_nil)) (blkOk_by (N := ["pool", "many", "left", "at", "lap"]) (sc := defScope s_law_order) (by decide +kernel)) (fun _ _ _ _ _ => (pg_name (i := 3) sc_law_order.nd rfl (Or.inl rfl))) (fun _ _ _ _ _ => pts_nil) (fun _ _ _ _ _ => (pv 3))))
  (pss_one (ps_ret (pe_lc (own := [("lap", 4)]) rfl sc_law_order.nd (pi_range1 (by rfl) T.z_range (pa_cons (pv 1) pa_nil)) (blkOk_by (N := ["pool", "many", "left", "at", "lap"]) (sc := defScope s_law_order) (by decide +kernel)) (fun _ _ _ _ _ => (pg_name (i := 4) sc_law_order.nd rfl (Or.inl rfl))) (fun _ _ _ _ _ => pts_nil) (fun _ _ _ _ _ => (pe_bm_K (K := K) rfl (pe_bm PySem.F.plainAttrs_list PySem.F.slot_list_pop PySem.F.type_list_pop mt_popAt (pv 2) (pa_cons (pe_call G_law_draw (hr.mono (by first | decide | omega)) rfl T.d_law_draw.g T.d_law_draw.k T.d_law_draw.b .nil pass0 (pa_cons (pv 0) (pa_cons (pe_op op_sub (pv 1) (pv 4)) pa_nil))) pa_nil)))))))), body_of h fun ρ xs R hF => ?_⟩
    obtain ⟨p, n, rfl, hp, hn, k⟩ := hF
    with_reducible repeat (first | refine ws_seq ?_ | refine ws_asg ?_)
    refine we_lcFM (wi_rng1 ?_)
    repeat (first | refine we_var rfl ?_ | with_reducible refine wa_cons ?_ | with_reducible refine wa_nil ?_)
    refine ⟨_, rfl, by omega, ?_⟩
    rw [rgA_src, Int.toNat_natCast]
    refine ⟨Nat, List.range n, fun i => D.int (0 + (i : Nat)), fun i => D.int (0 + (i : Nat)), fun _ => true, rfl, fun _ _ => trivial, by rw [List.length_range]; omega, fun m hm ρx sb => ?_, fun lf hlf => ?_⟩
    · refine wgv_name (by decide) ⟨rfl, wt_yes ⟨rfl, rfl, fun _ => ?_⟩⟩
      repeat (first | refine we_var rfl ?_)
      exact ⟨rfl, rfl⟩
    rw [nocut]
    have hlp : lf ≠ p := fun z => by
      obtain ⟨_, _, _, e⟩ := hp
      rw [z, e] at hlf
      cases hlf
    with_reducible repeat (first | refine ws_ret ?_ | refine wg_name ?_)
    refine we_lc (wi_rng1 ?_)
    repeat (first | refine we_var rfl ?_ | with_reducible refine wa_cons ?_ | with_reducible refine wa_nil ?_)
    refine ⟨_, rfl, by omega, fun L hL => ?_⟩
    rw [Int.toNat_natCast]
    have hD0 : Dr ρ p (pu ρ lf (.lst (((List.range n).map fun i => D.int (0 + (i : Nat))).map .d))) := (Dr.refl hp).new hlf hlp
    obtain ⟨hL0, hLp⟩ := hD0.none_ hL
    have hLl : L ≠ lf := fun z => by rw [z, pu_same] at hL; cases hL
    refine ⟨fun i acc ρ' => ∃ (os rest : List Nat), acc = (os.map fun i => D.int (i : Nat)).map .d ∧ os.length = i ∧ (os ++ rest).Perm (List.range n) ∧ ρ' lf = some (.lst ((rest.map fun i => D.int (i : Nat)).map .d)) ∧ ρ' L = some (.lst acc) ∧ Dr ρ p ρ', ?_, fun _ _ _ _ _ => trivial, ?_, ?_⟩
    · exact ⟨[], List.range n, rfl, rfl, List.Perm.refl _, by rw [pu_ne (Ne.symm hLl), pu_same]; congr 3; exact List.map_congr_left fun i _ => by rw [Int.zero_add], pu_same, hD0.new hL0 hLp⟩
    · rintro i y acc ρ' ey ⟨os, rest, rfl, ho, hpm, h1, h2, hD⟩
      obtain ⟨hi, rfl⟩ := rgA_at ey
      have hrl : rest.length = n - i := by
        have := hpm.length_eq
        rw [List.length_append, List.length_range] at this
        omega
      refine wgv_name (by decide) (wt_yes ⟨fun _ => ?_, fun z => by cases z⟩)
      skip
      refine we_bm ?_
      repeat (first | refine we_var rfl ?_)
      refine ⟨ty_lst h1, ?_⟩
      repeat (first | with_reducible refine we_op ?_ | refine we_var rfl ?_ | with_reducible refine wa_cons ?_ | with_reducible refine wa_nil ?_ | with_reducible refine we_call ?_ | refine o2_I0 (fun _ => Rep.int _) ?_)
      refine FDraw.of hD.pool (by omega) (by omega) fun r ρ2 hr0 hr1 hdr => ?_
      with_reducible repeat (first | refine wa_nil ?_)
      obtain ⟨j, rfl⟩ : ∃ j : Nat, r = (j : Int) := ⟨r.toNat, by omega⟩
      have hj : j < rest.length := by omega
      have h1' : ρ2 lf = some (.lst ((rest.map fun i => D.int (i : Nat)).map .d)) := by rw [hdr.ne hlp]; exact h1
      have h2' : ρ2 L = some (.lst ((os.map fun i => D.int (i : Nat)).map .d)) := by rw [hdr.ne hLp]; exact h2
      refine on_popAt (j := j) (z := .d (.int (rest[j] : Nat))) h1' (by rw [src_len]; omega) (src_at (src := fun i : Nat => D.int (i : Nat)) (List.getElem?_eq_getElem hj)) ?_
      refine ⟨(os.map fun i => D.int (i : Nat)).map .d, by rw [pu_ne hLl]; exact h2', by rw [src_len]; omega, os ++ [rest[j]], rest.eraseIdx j, by simp only [List.map_append, List.map_cons, List.map_nil], by rw [List.length_append, ho]; rfl, ?_, ?_, pu_same, ((hD.drawn hdr).new hlf hlp).new hL0 hLp⟩
      · refine List.Perm.trans ?_ hpm
        rw [List.append_assoc]
        refine List.Perm.append_left os ?_
        show (rest[j] :: rest.eraseIdx j).Perm rest
        exact erase_perm hj
      · rw [pu_ne (Ne.symm hLl), pu_same, map_erase, map_erase]
    · rintro acc ρ' ⟨os, rest, rfl, ho, hpm, h1, h2, hD⟩
      rw [rgA_len] at ho
      have hre : rest = [] := by
        have := hpm.length_eq
        rw [List.length_append, List.length_range] at this
        exact List.length_eq_zero_iff.mp (by omega)
      rw [hre, List.append_nil] at hpm
      obtain ⟨ρ2, hs2, hd2⟩ := hD.out
      refine .inr ⟨os.map fun i => D.int (i : Nat), ρ2, h2, by rw [hd2.ne hLp]; exact hL0, hs2, ρ2, AB.Sub.refl _, k os ρ2 hpm hd2⟩
end
end K82
set_option Elab.async false
set_option linter.all false
set_option maxRecDepth 100000
set_option maxHeartbeats 4000000
namespace K82
open PySem PySem.Spec PyProof.Rows L2 Evl HB AB KX SrtO
section
variable {P : Program} {w : World} {K : PySem.W.Frag} {mg : Str → Option Value} {base : Heap}
/-! ### names -/
/-- small signs, few -/
structure Word (x : Str) : Prop where
  ne : TL.tl x ≠ []
  few : (TL.tl x).length ≤ 20
  low : ∀ c, c ∈ TL.tl x → c < 128
theorem Word.ok {x : Str} (h : Word x) : PyData.strOk x = true := by
  unfold PyData.strOk
  rw [Array.all_eq_true_iff_forall_mem]
  intro c hc
  have := h.low c (Array.mem_toList_iff.mpr hc)
  exact decide_eq_true (by omega)
theorem Word.len {x : Str} (h : Word x) : x.length ≤ 20 := by rw [TL.len_tl]; exact h.few
theorem Word.app {x y : Str} (h : Word x) (h1 : (TL.tl x).length + (TL.tl y).length ≤ 20) (h2 : ∀ c, c ∈ TL.tl y → c < 128) : Word (x ++ y) := by
  refine ⟨fun e => ?_, by rw [TL.tl_append, List.length_append]; exact h1, fun c hc => ?_⟩
  · rw [TL.tl_append] at e
    exact h.ne (List.append_eq_nil_iff.mp e).1
  · rw [TL.tl_append] at hc
    rcases List.mem_append.mp hc with z | z
    · exact h.low c z
    · exact h2 c z
/-- not a letter, a number and a k -/
def Reg (x : Str) : Prop := ∀ c l, TL.tl x = c :: (l ++ [107]) → l = []
def Alt (j : Nat) (x : Str) : Prop := ∃ c, TL.tl x = c :: (TL.numL j ++ [107])
theorem reg_of {c e : Nat} {x : Str} {l : List Nat} (h : TL.tl x = c :: (l ++ [e])) (he : e ≠ 107) : Reg x := fun c' l' h' => by
  rw [h] at h'
  have := (List.cons.inj h').2
  have h2 := congrArg List.getLast? this
  rw [List.getLast?_append, List.getLast?_append] at h2
  simp at h2
  exact absurd h2 he
theorem reg_one {c : Nat} {x : Str} (h : TL.tl x = [c]) : Reg x := fun c' l' h' => by
  rw [h] at h'
  have := (List.cons.inj h').2
  simp at this
theorem num_snoc (n : Nat) : ∃ l e, TL.numL n = l ++ [e] ∧ e ≠ 107 := by
  have hn := TL.numL_ne n
  refine ⟨(TL.numL n).dropLast, (TL.numL n).getLast hn, (List.dropLast_concat_getLast hn).symm, fun e => ?_⟩
  have := TL.numL_digits n _ (List.getLast_mem hn)
  omega
theorem num_low (n : Nat) : ∀ c, c ∈ TL.numL n → c < 128 := fun c hc => by
  have := TL.numL_digits n c hc
  omega
theorem tl_str (n : Nat) : TL.tl (Str.ofString (toString ((n : Nat) : Int))) = TL.numL n := TL.tl_num n
theorem abc_at {r : Int} (h0 : 0 ≤ r) (h1 : r < 26) : ∃ c, atI (Str.ofString "abcdefghijklmnopqrstuvwxyz").cps.toList r = some c ∧ c < 128 := by
  have key : ∀ j : Fin 26, ∃ c, atI (Str.ofString "abcdefghijklmnopqrstuvwxyz").cps.toList ((j.val : Nat) : Int) = some c ∧ c < 128 := by
    intro j
    refine ⟨97 + j.val, ?_, by omega⟩
    revert j
    decide +kernel
  obtain ⟨n, rfl⟩ : ∃ n : Nat, r = (n : Int) := ⟨r.toNat, by omega⟩
  exact key ⟨n, by omega⟩
theorem nd_snoc {α : Type} {l : List α} {x : α} (h : l.Nodup) (n : x ∉ l) : (l ++ [x]).Nodup := by
  rw [List.nodup_append]
  refine ⟨h, by simp, fun a ha b hb z => ?_⟩
  rw [z, List.mem_singleton.mp hb] at ha
  exact n ha
theorem log_small {r : Int} (h0 : 0 ≤ r) (h1 : r < 1000) : r.natAbs.log2 < 1920 := by
  have : r.natAbs < 1024 := by omega
  have h2 : r.natAbs.log2 ≤ r.natAbs := Nat.log2_le_self _
  omega
structure Tail (t : Str) : Prop where
  few : (TL.tl t).length ≤ 10
  low : ∀ c, c ∈ TL.tl t → c < 128
  last : TL.tl t = [] ∨ ∃ l e, TL.tl t = l ++ [e] ∧ e ≠ 107
theorem tail_num {r : Int} (h0 : 0 ≤ r) (h1 : r < 100) : Tail (Str.ofString (toString r)) := by
  obtain ⟨n, rfl⟩ : ∃ n : Nat, r = (n : Int) := ⟨r.toNat, by omega⟩
  refine ⟨?_, ?_, .inr ?_⟩
  · rw [tl_str]
    exact Nat.le_trans (TL.numL_len (k := 2) (by decide) (by omega)) (by decide)
  · rw [tl_str]
    exact num_low n
  · rw [tl_str]
    exact num_snoc n
theorem tail_q {r : Int} (h0 : 0 ≤ r) (h1 : r < 100) : Tail (Str.ofString "q" ++ Str.ofString (toString r)) := by
  obtain ⟨n, rfl⟩ : ∃ n : Nat, r = (n : Int) := ⟨r.toNat, by omega⟩
  have e : TL.tl (Str.ofString "q" ++ Str.ofString (toString ((n : Nat) : Int))) = 113 :: TL.numL n := by
    rw [TL.tl_append, tl_str]
    rfl
  obtain ⟨l, c, e2, hc⟩ := num_snoc n
  refine ⟨?_, fun c hc => ?_, .inr ⟨113 :: l, c, by rw [e, e2]; rfl, hc⟩⟩
  · rw [e, List.length_cons]
    have := TL.numL_len (n := n) (k := 2) (by decide) (by omega)
    omega
  · rw [e] at hc
    rcases List.mem_cons.mp hc with z | z
    · omega
    · exact num_low n c z
theorem tail_0 : Tail (Str.ofString "") := ⟨by decide +kernel, by decide +kernel, .inl (by decide +kernel)⟩
theorem tail_a : Tail (Str.ofString "a") := ⟨by decide +kernel, by decide +kernel, .inr ⟨[], 97, by decide +kernel, by decide⟩⟩
theorem tail_z : Tail (Str.ofString "zzzzzzz") := ⟨by decide +kernel, by decide +kernel, .inr ⟨[122, 122, 122, 122, 122, 122], 122, by decide +kernel, by decide⟩⟩
theorem tail_at {ts : List Str} {r : Int} (h : ∀ t, t ∈ ts → Tail t) (h0 : 0 ≤ r) (h1 : r < ts.length) : ∃ t, atI (ts.map D.str) r = some (.str t) ∧ Tail t := by
  obtain ⟨n, rfl⟩ : ∃ n : Nat, r = (n : Int) := ⟨r.toNat, by omega⟩
  have hn : n < ts.length := by omega
  exact ⟨ts[n], atI_nat' (by rw [List.getElem?_map, List.getElem?_eq_getElem hn]; rfl), h _ (List.getElem_mem hn)⟩
theorem tl_one (c : Nat) : TL.tl (⟨#[c]⟩ : Str) = [c] := rfl
theorem word_tail {c : Nat} {t : Str} (hc : c < 128) (h : Tail t) : Word ((⟨#[c]⟩ : Str) ++ t) ∧ Reg ((⟨#[c]⟩ : Str) ++ t) := by
  have e : TL.tl ((⟨#[c]⟩ : Str) ++ t) = c :: TL.tl t := by rw [TL.tl_append, tl_one]; rfl
  refine ⟨⟨by rw [e]; simp, by rw [e, List.length_cons]; have := h.few; omega, fun d hd => ?_⟩, ?_⟩
  · rw [e] at hd
    rcases List.mem_cons.mp hd with z | z
    · omega
    · exact h.low d z
  · rcases h.last with z | ⟨l, d, z, hd⟩
    · exact reg_one (by rw [e, z])
    · exact reg_of (l := l) (by rw [e, z]) hd
theorem alt_tl (c j : Nat) : TL.tl ((⟨#[c]⟩ : Str) ++ Str.ofString (toString ((j : Nat) : Int)) ++ Str.ofString "k") = c :: (TL.numL j ++ [107]) := by
  rw [TL.tl_append, TL.tl_append, tl_one, tl_str]
  rfl
theorem word_alt {c j : Nat} (hc : c < 128) (hj : j < 1000) : Word ((⟨#[c]⟩ : Str) ++ Str.ofString (toString ((j : Nat) : Int)) ++ Str.ofString "k") := by
  refine ⟨by rw [alt_tl]; simp, ?_, fun d hd => ?_⟩
  · rw [alt_tl, List.length_cons, List.length_append, List.length_singleton]
    have := TL.numL_len (n := j) (k := 3) (by decide) (by omega)
    omega
  · rw [alt_tl] at hd
    rcases List.mem_cons.mp hd with z | z
    · omega
    · rcases List.mem_append.mp z with z | z
      · exact num_low j d z
      · rw [List.mem_singleton.mp z]
        decide
theorem alt_new {x : Str} {i : Nat} (h : Reg x ∨ ∃ j, j < i ∧ Alt j x) (a : Alt i x) : False := by
  obtain ⟨c, e⟩ := a
  rcases h with h | ⟨j, hj, c', e'⟩
  · exact TL.numL_ne i (h c _ e)
  · rw [e] at e'
    have h2 := List.append_cancel_right (List.cons.inj e').2
    have := TL.numL_inj h2
    omega
/-! ### _law_named -/
abbrev s_law_named : Stmt := topS 24
theorem sc_law_named : FnScope ["pool", "many", "names", "at", "letter", "kind", "name"] ["pool", "many"] (defScope s_law_named) := ⟨rfl, rfl, rfl, by decide +kernel, rfl, by decide +kernel, by decide +kernel⟩
def FNamed (xs : List AB.A) (ρ : Sto) (R : QA) : Prop := ∃ (p : Addr) (n : Nat), xs = [.m p, .d (.int (n : Nat))] ∧ PoolAt ρ p ∧ n ≤ 100 ∧ ∀ (names : List Str) ρ', names.length = n → ascL ltStr names = true → (∀ x, x ∈ names → Word x) → Drawn ρ p ρ' → R (.d (.lst (names.map D.str))) ρ'
theorem ok_named {f : Addr} {fd : FuncData} (F : Fun K "_law_named" "_law_named" s_law_named f fd) (T : Txt9 K mg) : FnOk P w K mg base CX0 2 f fd ["pool", "many"] (spA FNamed) := by
  have G_law_draw : FnOk P w K mg base CX0 1 T.d_law_draw.f T.d_law_draw.fd ["pool", "many"] (spA FDraw) := ok_draw T.d_law_draw.F T.toTz
  refine F.ok sc_law_named (spA_len fun xs ρ R h => ?_) (fun cdv Ar outer s H vs Q E hr h => ?_)
  · obtain ⟨_, _, rfl, _⟩ := h
    rfl
  · have hu : _ + 1 < cLine := hu_of hr
    refine ⟨_, (pss_cons (ps_set (i := 2) sc_law_named.nd rfl (Or.inl rfl) (pe_lst pa_nil))
  (pss_cons (ps_for PassesOwn.never rfl (pi_range1 (by rfl) T.z_range (pa_cons (pv 1) pa_nil)) (pg_name (i := 3) sc_law_named.nd rfl (Or.inl rfl))
  (pss_cons (ps_set (i := 4) sc_law_named.nd rfl (Or.inl rfl) (pe_ix ix_str pe_str (pe_call G_law_draw (hr.mono (by first | decide | omega)) rfl T.d_law_draw.g T.d_law_draw.k T.d_law_draw.b .nil pass0 (pa_cons (pv 0) (pa_cons pe_int pa_nil))) (fun _ _ => rfl)))
  (pss_cons (ps_set (i := 5) sc_law_named.nd rfl (Or.inl rfl) (pe_call G_law_draw (hr.mono (by first | decide | omega)) rfl T.d_law_draw.g T.d_law_draw.k T.d_law_draw.b .nil pass0 (pa_cons (pv 0) (pa_cons pe_int pa_nil))))
  (pss_cons (ps_set (i := 6) sc_law_named.nd rfl (Or.inl rfl) (pe_op op_add_str (pv 4) (pe_ix ix_tup (pe_tupZ (pa_cons pe_str (pa_cons pe_str (pa_cons (pe_callTy call_str_int (by rfl) T.z_str bt_str (pa_cons (pe_call G_law_draw (hr.mono (by first | decide | omega)) rfl T.d_law_draw.g T.d_law_draw.k T.d_law_draw.b .nil pass0 (pa_cons (pv 0) (pa_cons pe_int pa_nil))) pa_nil)) (pa_cons pe_str (pa_cons (pe_op op_add_str pe_str (pe_callTy call_str_int (by rfl) T.z_str bt_str (pa_cons (pe_call G_law_draw (hr.mono (by first | decide | omega)) rfl T.d_law_draw.g T.d_law_draw.k T.d_law_draw.b .nil pass0 (pa_cons (pv 0) (pa_cons pe_int pa_nil))) pa_nil))) pa_nil)))))) (pv 5) (fun _ _ => rfl))))
  (pss_one (ps_expr (pe_bm PySem.F.plainAttrs_list PySem.F.slot_list_append PySem.F.type_list_append mt_append (pv 2) (pa_cons (pe_ifExp (pt_cmpR op_in_seq (pv 6) (pv 2) (by with_unfolding_all rfl)) (pe_op op_add_str (pe_op op_add_str (pv 4) (pe_callTy call_str_int (by rfl) T.z_str bt_str (pa_cons (pv 3) pa_nil))) pe_str) (pv 6)) pa_nil))))))))
  (pss_one (ps_ret (pe_callB cr_sortedSS (by rfl) T.z_sorted bt_sorted (pa_cons (pv 2) pa_nil)))))), body_of h fun ρ xs R hF => ?_⟩
    obtain ⟨p, n, rfl, hp, hn, k⟩ := hF
    with_reducible repeat (first | refine ws_seq ?_ | refine ws_asg ?_)
    refine we_lstM ?_
    with_reducible repeat (first | refine wa_nil ?_)
    refine ⟨by show 0 ≤ 100000; decide, fun na hna => ?_⟩
    with_reducible repeat (first | refine ws_seq ?_ | refine wg_name ?_)
    have hnp : na ≠ p := fun z => by
      obtain ⟨_, _, _, e⟩ := hp
      rw [z, e] at hna
      cases hna
    refine ws_for (wi_rng1 ?_)
    repeat (first | refine we_var rfl ?_ | with_reducible refine wa_cons ?_ | with_reducible refine wa_nil ?_)
    refine ⟨_, rfl, by omega, ?_⟩
    rw [Int.toNat_natCast]
    refine ⟨fun i γ ρ' => ∃ (ns : List Str) (v3 v4 v5 v6 : Option AB.A), γ = [some (.m p), some (.d (.int (n : Nat))), some (.m na), v3, v4, v5, v6] ∧ ρ' na = some (.lst ((ns.map D.str).map .d)) ∧ Dr ρ p ρ' ∧ ns.length = i ∧ ns.Nodup ∧ (∀ x, x ∈ ns → Word x) ∧ ∀ x, x ∈ ns → Reg x ∨ ∃ j, j < i ∧ Alt j x, ?_, fun _ _ _ _ _ => trivial, ?_, ?_⟩
    · exact ⟨[], _, _, _, _, rfl, pu_same, (Dr.refl hp).new hna hnp, rfl, by simp, fun x h => by simp at h, fun x h => by simp at h⟩
    · rintro i y γ ρ' ey ⟨ns, v3, v4, v5, v6, rfl, h1, hD, hl, hnd, hw, hra⟩
      obtain ⟨hi, rfl⟩ := rgA_at ey
      refine wg_name ?_
      repeat (first | with_reducible refine ws_seq ?_ | with_reducible refine ws_asg ?_ | with_reducible refine we_op ?_ | refine we_var rfl ?_ | with_reducible refine we_int ?_ | with_reducible refine we_str ?_ | with_reducible refine wa_cons ?_ | with_reducible refine wa_nil ?_ | with_reducible refine we_call ?_)
      refine FDraw.of hD.pool (by decide) (by decide) fun r1 ρ1 hr0 hr1 hd1 => ?_
      obtain ⟨c, hc, hc2⟩ := abc_at hr0 hr1
      refine o2_ixS (c := c) (by decide +kernel) hc ?_
      repeat (first | with_reducible refine ws_seq ?_ | with_reducible refine ws_asg ?_ | with_reducible refine wg_name ?_ | refine we_var rfl ?_ | with_reducible refine we_int ?_ | with_reducible refine wa_cons ?_ | with_reducible refine wa_nil ?_ | with_reducible refine we_call ?_)
      refine FDraw.of hd1.at_ (by decide) (by decide) fun r2 ρ2 hr2 hr3 hd2 => ?_
      repeat (first | with_reducible refine ws_seq ?_ | with_reducible refine ws_asg ?_ | with_reducible refine wg_name ?_ | with_reducible refine we_op ?_ | refine we_var rfl ?_)
      refine we_tup ?_
      repeat (first | refine we_var rfl ?_ | with_reducible refine we_int ?_ | with_reducible refine we_str ?_ | with_reducible refine wa_cons ?_ | with_reducible refine wa_nil ?_ | with_reducible refine we_cb ?_ | with_reducible refine we_call ?_)
      refine FDraw.of hd2.at_ (by decide) (by decide) fun r3 ρ3 hr4 hr5 hd3 => ?_
      with_reducible repeat (first | refine wa_nil ?_)
      refine on_str (log_small hr4 (by omega)) ?_
      repeat (first | with_reducible refine we_op ?_ | refine we_var rfl ?_ | with_reducible refine we_int ?_ | with_reducible refine we_str ?_ | with_reducible refine wa_cons ?_ | with_reducible refine wa_nil ?_ | with_reducible refine we_cb ?_ | with_reducible refine we_call ?_)
      refine FDraw.of hd3.at_ (by decide) (by decide) fun r4 ρ4 hr6 hr7 hd4 => ?_
      with_reducible repeat (first | refine wa_nil ?_)
      refine on_str (log_small hr6 (by omega)) ?_
      refine o2_addS (by have := (tail_num hr6 hr7).few; rw [TL.len_tl (Str.ofString (toString r4))]; have : (Str.ofString "q").length = 1 := rfl; omega) ?_
      with_reducible repeat (first | refine wa_nil ?_)
      have hts : ∀ t, t ∈ [Str.ofString "", Str.ofString "a", Str.ofString (toString r3), Str.ofString "zzzzzzz", Str.ofString "q" ++ Str.ofString (toString r4)] → Tail t := by
        intro t ht
        rcases List.mem_cons.mp ht with rfl | ht
        · exact tail_0
        rcases List.mem_cons.mp ht with rfl | ht
        · exact tail_a
        rcases List.mem_cons.mp ht with rfl | ht
        · exact tail_num hr4 (by omega)
        rcases List.mem_cons.mp ht with rfl | ht
        · exact tail_z
        rw [List.mem_singleton.mp ht]
        exact tail_q hr6 hr7
      obtain ⟨t, et, htl⟩ := tail_at (r := r2) hts hr2 (by show r2 < 5; omega)
      refine ⟨[Str.ofString "", Str.ofString "a", Str.ofString (toString r3), Str.ofString "zzzzzzz", Str.ofString "q" ++ Str.ofString (toString r4)].map D.str, rfl, (by show 5 ≤ 100000; decide), ?_⟩
      repeat (first | refine we_var rfl ?_)
      refine o2_ixT et ?_
      obtain ⟨hw1, hr1'⟩ := word_tail hc2 htl
      refine o2_addS (by have := hw1.len; rw [PySem.Str.length_append] at this; omega) ?_
      with_reducible repeat (first | refine ws_drop ?_ | refine wg_name ?_)
      have hd : Drawn ρ' p ρ4 := ((hd1.trans hd2).trans hd3).trans hd4
      have hD4 := hD.drawn hd
      have h14 : ρ4 na = some (.lst ((ns.map D.str).map .d)) := by rw [hd.ne hnp]; exact h1
      refine we_bm ?_
      repeat (first | refine we_var rfl ?_)
      refine ⟨ty_lst h14, wa_cons (we_if (wt_test ?_))⟩
      repeat (first | with_reducible refine we_op ?_ | refine we_var rfl ?_)
      refine o2_inS (.inl (lsm h14)) ?_
      repeat (first | refine ⟨_, (rfl : AB.A.d (D.bl _) = _), ?_⟩)
      refine ⟨fun b => ?_, fun b => ?_⟩
      · have hin := of_decide_eq_true b
        repeat (first | with_reducible refine we_op ?_ | refine we_var rfl ?_ | with_reducible refine wa_cons ?_ | with_reducible refine wa_nil ?_ | with_reducible refine we_cb ?_)
        refine on_str (log_small (by omega) (by omega)) ?_
        rw [Int.zero_add]
        have hwa := word_alt (c := c) (j := i) hc2 (by omega)
        have hla := hwa.len
        rw [PySem.Str.length_append, PySem.Str.length_append] at hla
        refine o2_addS (by omega) ?_
        with_reducible repeat (first | refine we_str ?_)
        refine o2_addS (by rw [PySem.Str.length_append]; omega) ?_
        with_reducible repeat (first | refine wa_nil ?_)
        have hnew : ∀ x, x ∈ ns → x ≠ (⟨#[c]⟩ : Str) ++ Str.ofString (toString ((i : Nat) : Int)) ++ Str.ofString "k" := fun x hx e => by
          refine alt_new (i := i) (hra x hx) ?_
          rw [e]
          exact ⟨c, alt_tl c i⟩
        refine on_append h14 (by rw [src_len]; omega) ?_
        refine ⟨ns ++ [_], _, _, _, _, rfl, by rw [pu_same]; simp only [List.map_append]; rfl, hD4.new hna hnp, by rw [List.length_append, hl]; rfl, nd_snoc hnd fun m => hnew _ m rfl, fun x hx => ?_, fun x hx => ?_⟩
        · rcases List.mem_append.mp hx with z | z
          · exact hw x z
          · rw [List.mem_singleton.mp z]
            exact hwa
        · rcases List.mem_append.mp hx with z | z
          · exact (hra x z).imp id fun ⟨j, hj, a⟩ => ⟨j, by omega, a⟩
          · rw [List.mem_singleton.mp z]
            exact .inr ⟨i, by omega, c, alt_tl c i⟩
      · have hin := of_decide_eq_false b
        repeat (first | refine we_var rfl ?_ | with_reducible refine wa_nil ?_)
        refine on_append h14 (by rw [src_len]; omega) ?_
        refine ⟨ns ++ [_], _, _, _, _, rfl, by rw [pu_same]; simp only [List.map_append]; rfl, hD4.new hna hnp, by rw [List.length_append, hl]; rfl, nd_snoc hnd hin, fun x hx => ?_, fun x hx => ?_⟩
        · rcases List.mem_append.mp hx with z | z
          · exact hw x z
          · rw [List.mem_singleton.mp z]
            exact hw1
        · rcases List.mem_append.mp hx with z | z
          · exact (hra x z).imp id fun ⟨j, hj, a⟩ => ⟨j, by omega, a⟩
          · rw [List.mem_singleton.mp z]
            exact .inl hr1'
    · rintro γ ρ' ⟨ns, v3, v4, v5, v6, rfl, h1, hD, hl, hnd, hw, hra⟩
      rw [rgA_len] at hl
      refine ws_ret ?_
      repeat (first | refine we_var rfl ?_ | with_reducible refine wa_cons ?_ | with_reducible refine wa_nil ?_ | with_reducible refine we_cb ?_)
      refine on_sortedSS (lsm h1) fun zs hpz hso => ?_
      obtain ⟨ρ2, hs2, hd2⟩ := hD.out
      exact ⟨ρ2, hs2, k zs ρ2 (by rw [hpz.length_eq, hl]) (asc_of tri_str hso (hpz.nodup_iff.mpr hnd)) (fun x hx => hw x (hpz.mem_iff.mp hx)) hd2⟩
end
end K82
set_option Elab.async false
set_option linter.all false
set_option maxRecDepth 100000
set_option maxHeartbeats 4000000
namespace K82
open PySem PySem.Spec PyProof.Rows L2 Evl HB AB KX SrtO
section
variable {P : Program} {w : World} {K : PySem.W.Frag} {mg : Str → Option Value} {base : Heap}
/-! ### pairs, told as a dict of True -/
def pkey (p : Str × Str) : List Key := [.inr p.1, .inr p.2]
theorem pkey_inj : ∀ a b : Str × Str, pkey a = pkey b → a = b := fun a b h => by
  unfold pkey at h
  injection h with h1 h2
  injection h2 with h2 _
  exact Prod.ext (Sum.inr.inj h1) (Sum.inr.inj h2)
def insP (l : List (Str × Str)) (p : Str × Str) : List (Str × Str) := if p ∈ l then l else l ++ [p]
def pairK (l : List (Str × Str)) : List (List Key × AB.A) := l.map fun p => (pkey p, AB.A.d (.bl true))
theorem mem_insP {l : List (Str × Str)} {x y : Str × Str} : y ∈ insP l x ↔ y ∈ l ∨ y = x := by
  unfold insP
  split
  · rename_i h
    exact ⟨.inl, fun z => z.elim id fun e => by rw [e]; exact h⟩
  · simp
theorem insP_nd {l : List (Str × Str)} {x : Str × Str} (h : l.Nodup) : (insP l x).Nodup := by
  unfold insP
  split
  · exact h
  · rename_i c
    exact nd_snoc h c
theorem pairK_val (x : Str × Str) : ∀ l : List (Str × Str), valA (pairK l) (pkey x) = if x ∈ l then some (AB.A.d (.bl true)) else none
  | [] => rfl
  | y :: l => by
    show valA ((pkey y, AB.A.d (.bl true)) :: pairK l) (pkey x) = _
    by_cases e : y = x
    · rw [valA_pos (by rw [e]), if_pos (by rw [e]; exact List.mem_cons_self)]
    · rw [valA_neg (fun z => e (pkey_inj _ _ z)), pairK_val x l]
      by_cases c : x ∈ l
      · rw [if_pos c, if_pos (List.mem_cons_of_mem _ c)]
      · rw [if_neg c, if_neg (fun z => by rcases List.mem_cons.mp z with w | w; exact e w.symm; exact c w)]
theorem pairK_put (l : List (Str × Str)) (x : Str × Str) : putA (pairK l) (pkey x) (AB.A.d (.bl true)) = pairK (insP l x) := by
  unfold insP
  split
  · rename_i h
    refine (show putA (pairK l) _ _ = _ from putA_map (kf := pkey) (gf := fun _ => AB.A.d (.bl true)) (v := AB.A.d (.bl true)) pkey_inj h).trans ?_
    unfold pairK
    apply List.map_congr_left
    intro m _
    split <;> rfl
  · rename_i h
    refine (show putA (pairK l) _ _ = _ from putA_new (kf := pkey) (gf := fun _ => AB.A.d (.bl true)) (v := AB.A.d (.bl true)) pkey_inj h).trans ?_
    unfold pairK
    rw [List.map_append]
    rfl
theorem pair_get {l : List (Str × Str)} {x y : Str} {ρ : Sto} {a : Addr} (h : ρ a = some (.dT (pairK l))) : DGA (.m a) (.d (.ptup [.str x, .str y])) ρ (if (x, y) ∈ l then some (AB.A.d (.bl true)) else none) :=
  .inr (.inr ⟨a, _, pkey (x, y), rfl, h, rfl, (pairK_val (x, y) l).symm⟩)
theorem pair_has {l : List (Str × Str)} {x y : Str} : (if (x, y) ∈ l then some (AB.A.d (.bl true)) else none).isSome = decide ((x, y) ∈ l) := by
  by_cases h : (x, y) ∈ l
  · rw [if_pos h, decide_eq_true h]
    rfl
  · rw [if_neg h, decide_eq_false h]
    rfl
theorem pair_put {l : List (Str × Str)} {x y : Str} {ρ : Sto} {a : Addr} (h : ρ a = some (.dT (pairK l))) (hz : l.length < 100000) : DPA (.m a) (.d (.ptup [.str x, .str y])) (.d (.bl true)) ρ (pu ρ a (.dT (pairK (insP l (x, y))))) :=
  .inr ⟨a, _, pkey (x, y), rfl, h, rfl, by unfold pairK; rw [List.length_map]; exact hz, by rw [pairK_put]⟩
/-! ### paths by their number of ties -/
inductive PN (ps : List (Str × Str)) : Nat → Str → Str → Prop
  | one {a b : Str} (h : (a, b) ∈ ps) : PN ps 1 a b
  | more {n : Nat} {a c b : Str} (h : (a, c) ∈ ps) (p : PN ps n c b) : PN ps (n + 1) a b
theorem tie_iff {ps : List (Str × Str)} {a b : Str} {g : Int} : (a, b, g) ∈ one3 ps ↔ g = 1 ∧ (a, b) ∈ ps := by
  unfold one3
  rw [List.mem_map]
  constructor
  · rintro ⟨p, hp, e⟩
    cases e
    exact ⟨rfl, hp⟩
  · rintro ⟨rfl, h⟩
    exact ⟨(a, b), h, rfl⟩
theorem SP.pn {ps : List (Str × Str)} {a b : Str} : SP ps a b ↔ ∃ n, PN ps n a b := by
  constructor
  · rintro ⟨u, p⟩
    induction p with
    | one h => exact ⟨1, .one (tie_iff.mp h).2⟩
    | more h _ ih =>
      obtain ⟨n, hn⟩ := ih
      exact ⟨n + 1, .more (tie_iff.mp h).2 hn⟩
  · rintro ⟨n, p⟩
    induction p with
    | one h => exact ⟨1, .one (tie_iff.mpr ⟨rfl, h⟩)⟩
    | more h _ ih =>
      obtain ⟨u, hu⟩ := ih
      exact ⟨1 + u, .more (tie_iff.mpr ⟨rfl, h⟩) hu⟩
theorem PN.list {names : List Str} {ps : List (Str × Str)} (hf : Fits names (one3 ps)) {rank : Str → Nat} (hr : ∀ t ∈ one3 ps, rank t.1 < rank t.2.1) {n : Nat} {a b : Str} (p : PN ps n a b) : ∃ l : List Str, l.length = n ∧ l.Nodup ∧ ∀ x, x ∈ l → x ∈ names ∧ rank a < rank x := by
  induction p with
  | @one a b h =>
    have ht := tie_iff.mpr ⟨rfl, h⟩
    refine ⟨[b], rfl, by simp, fun x hx => ?_⟩
    rw [List.mem_singleton.mp hx]
    exact ⟨(hf.2.2.2.1 _ ht).2, hr _ ht⟩
  | @more n a c b h _ ih =>
    have ht := tie_iff.mpr ⟨rfl, h⟩
    obtain ⟨l, h1, h2, h3⟩ := ih
    have hac : rank a < rank c := hr _ ht
    refine ⟨c :: l, by rw [List.length_cons, h1], List.nodup_cons.mpr ⟨fun m => Nat.lt_irrefl _ (h3 c m).2, h2⟩, fun x hx => ?_⟩
    rcases List.mem_cons.mp hx with z | z
    · rw [z]
      exact ⟨(hf.2.2.2.1 _ ht).2, hac⟩
    · exact ⟨(h3 x z).1, Nat.lt_trans hac (h3 x z).2⟩
theorem PN.le {names : List Str} {ps : List (Str × Str)} (hf : Fits names (one3 ps)) {n : Nat} {a b : Str} (p : PN ps n a b) : n ≤ names.length := by
  obtain ⟨rank, hr⟩ := hf.2.2.2.2
  obtain ⟨l, h1, h2, h3⟩ := p.list hf hr
  rw [← h1]
  exact KN.nodup_len h2 fun x hx => (h3 x hx).1
/-! ### _law_ahead -/
abbrev s_law_ahead : Stmt := topS 25
theorem sc_law_ahead : FnScope ["names", "ties", "ahead", "one", "other", "lap", "more", "pair", "name"] ["names", "ties"] (defScope s_law_ahead) := ⟨rfl, rfl, rfl, by decide +kernel, rfl, by decide +kernel, by decide +kernel⟩
def FAhead (xs : List AB.A) (ρ : Sto) (R : QA) : Prop := ∃ names ps, xs = [.d (.tup (names.map D.str)), .d (.tup (ps.map pairD))] ∧ Bare names ps ∧ ∀ (a : Addr) (L : List (Str × Str)), ρ a = none → (∀ x y, (x, y) ∈ L ↔ SP ps x y) → R (.m a) (pu ρ a (.dT (pairK L)))
theorem closed_all {ps L : List (Str × Str)} (h1 : ∀ p, p ∈ ps → p ∈ L) (h2 : ∀ a c b, (a, c) ∈ ps → (c, b) ∈ L → (a, b) ∈ L) {n : Nat} {a b : Str} (p : PN ps n a b) : (a, b) ∈ L := by
  induction p with
  | one h => exact h1 _ h
  | more h _ ih => exact h2 _ _ _ h ih
/-- pairs that are told so far: paths; all of n ties at most -/
structure Ah (ps : List (Str × Str)) (n : Nat) (L : List (Str × Str)) : Prop where
  nd : L.Nodup
  so : ∀ x y, (x, y) ∈ L → SP ps x y
  all : ∀ k x y, k ≤ n → PN ps k x y → (x, y) ∈ L
theorem Ah.len {names : List Str} {ps L : List (Str × Str)} {n : Nat} (h : Ah ps n L) (hf : Fits names (one3 ps)) : L.length ≤ names.length * names.length := by
  have := KN.nodup_len h.nd (m := names.flatMap fun a => names.map fun b => (a, b)) fun p hp => by
    obtain ⟨ha, hb⟩ := SP.mem hf (h.so p.1 p.2 hp)
    exact List.mem_flatMap.mpr ⟨p.1, ha, List.mem_map.mpr ⟨p.2, hb, rfl⟩⟩
  refine Nat.le_trans this ?_
  rw [List.length_flatMap, List.map_congr_left (g := fun _ => names.length) fun a _ => List.length_map _]
  rw [List.map_const', List.sum_replicate_nat]
  exact Nat.le_refl _
theorem ok_ahead {f : Addr} {fd : FuncData} (F : Fun K "_law_ahead" "_law_ahead" s_law_ahead f fd) (T : Tz mg) : FnOk P w K mg base CX0 1 f fd ["names", "ties"] (spA FAhead) := by
  refine F.ok sc_law_ahead (spA_len fun xs ρ R h => ?_) (fun cdv Ar outer s H vs Q E hr h => ?_)
  · obtain ⟨_, _, rfl, _⟩ := h
    rfl
  · have hu : _ + 1 < cLine := hu_of hr
    refine ⟨_, (pss_cons (ps_set (i := 2) sc_law_ahead.nd rfl (Or.inr rfl) pe_dnewT)
  (pss_cons (ps_for PassesOwn.never rfl (pi_tup (pv 1)) (pg_tup rfl (pgs_cons (pg_name (i := 3) sc_law_ahead.nd rfl (Or.inr rfl)) (pgs_cons (pg_name (i := 4) sc_law_ahead.nd rfl (Or.inr rfl)) pgs_nil)))
  (pss_one (ps_dput hu (pv 2) (pe_tup (pa_cons (pv 3) (pa_cons (pv 4) pa_nil))) pe_bl rfl)))
  (pss_cons (ps_for PassesOwn.never rfl (pi_range1 (by rfl) T.z_range (pa_cons (pe_op op_add (pe_callB call_len_seq (by rfl) T.z_len bt_len (pa_cons (pv 0) pa_nil)) pe_int) pa_nil)) (pg_name (i := 5) sc_law_ahead.nd rfl (Or.inl rfl))
  (pss_cons (ps_set (i := 6) sc_law_ahead.nd rfl (Or.inl rfl) (pe_lst pa_nil))
  (pss_cons (ps_for PassesOwn.never rfl (pi_tup (pv 1)) (pg_tup rfl (pgs_cons (pg_name (i := 3) sc_law_ahead.nd rfl (Or.inr rfl)) (pgs_cons (pg_name (i := 4) sc_law_ahead.nd rfl (Or.inr rfl)) pgs_nil)))
  (pss_one (ps_expr (pe_bm PySem.F.plainAttrs_list PySem.F.slot_list_extend PySem.F.type_list_extend mt_extend (pv 6) (pa_cons (pe_lc (own := [("name", 8)]) rfl sc_law_ahead.nd (pi_tup (pv 0)) (blkOk_by (N := ["names", "ties", "ahead", "one", "other", "lap", "more", "pair", "name"]) (sc := defScope s_law_ahead) (by decide +kernel)) (fun _ _ _ _ _ => (pg_name (i := 8) sc_law_ahead.nd rfl (Or.inl rfl))) (fun _ _ _ _ _ => (pts_one (PW.pt (pw_and (pt_cmp (pc_din hu (pe_tup (pa_cons (pv 4) (pa_cons (pv 8) pa_nil))) (pv 2))) (pw_and1 (pt_cmp (pc_dnotin hu (pe_tup (pa_cons (pv 3) (pa_cons (pv 8) pa_nil))) (pv 2)))))))) (fun _ _ _ _ _ => (pe_tup (pa_cons (pv 3) (pa_cons (pv 8) pa_nil))))) pa_nil)))))
  (pss_cons (ps_for PassesOwn.never rfl (pi_list (pv 6)) (pg_name (i := 7) sc_law_ahead.nd rfl (Or.inl rfl))
  (pss_one (ps_dput hu (pv 2) (pv 7) pe_bl rfl)))
  (pss_one (ps_if (pt_not (pt_truth (pv 6) (fun _ => rfl))) (pss_one ps_break)
  pss_nil))))))
  (pss_one (ps_ret (pv 2)))))), body_of h fun ρ xs R hF => ?_⟩
    obtain ⟨names, ps, rfl, hB, k⟩ := hF
    with_reducible repeat (first | refine ws_seq ?_ | refine ws_asg ?_)
    refine we_dictT fun ah hah => ?_
    with_reducible repeat (first | refine ws_seq ?_ | refine wg_name ?_)
    have hz := hB.z
    have htz := hB.t
    have hfin : ∀ {ρ' : Sto} {L : List (Str × Str)}, AB.Sub ρ ρ' → ρ' ah = some (.dT (pairK L)) → (∀ x y, (x, y) ∈ L ↔ SP ps x y) → ∃ ρ2, AB.Sub ρ2 ρ' ∧ R (.m ah) ρ2 := fun {ρ' L} hs h hL => by
      refine ⟨_, fun a u e => ?_, k ah L hah hL⟩
      by_cases z : a = ah
      · rw [z, pu_same] at e
        rw [z, h]
        exact e
      · rw [pu_ne z] at e
        exact hs a u e
    refine ws_for (wi_tup ?_)
    repeat (first | refine we_var rfl ?_)
    refine ⟨_, rfl, fun i γ ρ' => ∃ (L : List (Str × Str)) (v3 v4 : Option AB.A), γ = [some (.d (.tup (names.map D.str))), some (.d (.tup (ps.map pairD))), some (.m ah), v3, v4, none, none, none, none] ∧ ρ' ah = some (.dT (pairK L)) ∧ AB.Sub ρ ρ' ∧ L.Nodup ∧ L.length ≤ i ∧ ∀ x, x ∈ L ↔ x ∈ ps.take i, ?_, fun _ _ _ _ _ => trivial, ?_, ?_⟩
    · exact ⟨[], _, _, rfl, pu_same, (AB.Sub.refl ρ).new hah, by simp, Nat.le_refl _, fun x => by simp⟩
    · rintro i y γ ρ' ey ⟨L, v3, v4, rfl, h1, h2, h3, h4, h5⟩
      obtain ⟨p, ep, rfl⟩ := at_src ey
      have hi := (List.getElem?_eq_some_iff.mp ep).1
      refine wg_ptup rfl (wgs_cons (wg_name (wgs_cons (wg_name (wgs_nil ?_)))))
      refine ws_dput ?_
      repeat (first | refine we_var rfl ?_ | with_reducible refine we_bl ?_)
      refine we_ptup ?_
      repeat (first | refine we_var rfl ?_ | with_reducible refine wa_cons ?_ | with_reducible refine wa_nil ?_)
      refine ⟨[.str p.1, .str p.2], rfl, (by show 2 ≤ 100000; decide), ?_⟩
      refine ⟨_, pair_put h1 (by omega), ?_⟩
      have hle : (insP L (p.1, p.2)).length ≤ L.length + 1 := by
        unfold insP
        split
        · omega
        · simp
      refine ⟨insP L (p.1, p.2), _, _, rfl, pu_same, h2.new hah, insP_nd h3, by omega, fun x => ?_⟩
      rw [mem_insP, h5, List.take_succ, ep, List.mem_append]
      simp
    rintro γ ρ1 ⟨L, v3, v4, rfl, h1, h2, h3, h4, h5⟩
    rw [src_len, List.take_length] at h5
    with_reducible repeat (first | refine ws_seq ?_)
    refine ws_for (wi_rng1 ?_)
    repeat (first | with_reducible refine we_op ?_ | refine we_var rfl ?_ | with_reducible refine we_int ?_ | with_reducible refine wa_cons ?_ | with_reducible refine wa_nil ?_ | with_reducible refine we_cb ?_ | refine o2_I0 (fun _ => Rep.int _) ?_ | with_reducible refine on_lenT ?_)
    rw [List.length_map]
    refine ⟨_, rfl, by omega, ?_⟩
    refine ⟨fun i γ ρ' => ∃ (L : List (Str × Str)) (v3 v4 v5 v6 v7 : Option AB.A), γ = [some (.d (.tup (names.map D.str))), some (.d (.tup (ps.map pairD))), some (.m ah), v3, v4, v5, v6, v7, none] ∧ ρ' ah = some (.dT (pairK L)) ∧ AB.Sub ρ ρ' ∧ Ah ps (i + 1) L, ?_, fun _ _ _ _ _ => trivial, ?_, ?_⟩
    · refine ⟨L, _, _, _, _, _, rfl, h1, h2, h3, fun x y h => SP.pn.mpr ⟨1, .one ((h5 _).mp h)⟩, fun k x y hk hp => ?_⟩
      cases hp with
      | one h => exact (h5 _).mpr h
      | more h p =>
        exfalso
        cases p <;> omega
    · rintro i y γ ρ' ey ⟨L, v3, v4, v5, v6, v7, rfl, h1, h2, hA⟩
      have hLl : L.length ≤ 8100 := Nat.le_trans (hA.len hB.f) (Nat.mul_le_mul hz hz)
      have hps : ∀ p, p ∈ ps → p ∈ L := fun p hp => hA.all 1 p.1 p.2 (by omega) (.one hp)
      refine wg_name ?_
      with_reducible repeat (first | refine ws_seq ?_ | refine ws_asg ?_)
      refine we_lstM ?_
      with_reducible repeat (first | refine wa_nil ?_)
      refine ⟨by show 0 ≤ 100000; decide, fun mo hmo => ?_⟩
      with_reducible repeat (first | refine ws_seq ?_ | refine wg_name ?_)
      have hma : mo ≠ ah := fun z => by rw [z, h1] at hmo; cases hmo
      have hmo0 := none_of h2 hmo
      refine ws_for (wi_tup ?_)
      repeat (first | refine we_var rfl ?_)
      refine ⟨_, rfl, fun j γ ρ' => ∃ (M : List (Str × Str)) (v3 v4 : Option AB.A), γ = [some (.d (.tup (names.map D.str))), some (.d (.tup (ps.map pairD))), some (.m ah), v3, v4, some y, some (.m mo), v7, none] ∧ ρ' ah = some (.dT (pairK L)) ∧ ρ' mo = some (.lst ((M.map pairD).map .d)) ∧ AB.Sub ρ ρ' ∧ M.length ≤ j * 90 ∧ ∀ x z, (x, z) ∈ M ↔ ∃ o, (x, o) ∈ ps.take j ∧ z ∈ names ∧ (o, z) ∈ L ∧ (x, z) ∉ L, ?_, fun _ _ _ _ _ => trivial, ?_, ?_⟩
      · exact ⟨[], _, _, rfl, by rw [pu_ne (Ne.symm hma)]; exact h1, pu_same, h2.new hmo0, Nat.zero_le _, fun x z => by simp⟩
      · rintro j y2 γ ρ2 ey2 ⟨M, v3, v4, rfl, g1, g2, g3, g4, g5⟩
        obtain ⟨p, ep, rfl⟩ := at_src ey2
        have hj := (List.getElem?_eq_some_iff.mp ep).1
        refine wg_ptup rfl (wgs_cons (wg_name (wgs_cons (wg_name (wgs_nil ?_)))))
        with_reducible repeat (first | refine ws_drop ?_)
        refine we_bm ?_
        repeat (first | refine we_var rfl ?_)
        refine ⟨ty_lst g2, wa_cons (we_lcF (wi_tup ?_))⟩
        repeat (first | refine we_var rfl ?_)
        refine ⟨_, rfl, Str, names, D.str, fun n => pairD (p.1, n), fun n => decide ((p.2, n) ∈ L) && !decide ((p.1, n) ∈ L), rfl, fun _ _ => trivial, by omega, fun n hn ρx sb => ?_, ?_⟩
        · refine wgv_name (by decide) ⟨rfl, ?_⟩
          refine wt_and (wt_B (we_din (we_ptup ?_)))
          repeat (first | refine we_var rfl ?_ | with_reducible refine wa_cons ?_ | with_reducible refine wa_nil ?_)
          refine ⟨[.str p.2, .str n], rfl, (by show 2 ≤ 100000; decide), ?_⟩
          repeat (first | refine we_var rfl ?_)
          refine ⟨_, pair_get (sb _ _ g1), ?_⟩
          rw [pair_has]
          refine ⟨_, rfl, fun b1 => ?_, fun b1 => ?_⟩
          · refine wt_B (we_dnotin (we_ptup ?_))
            repeat (first | refine we_var rfl ?_ | with_reducible refine wa_cons ?_ | with_reducible refine wa_nil ?_)
            refine ⟨[.str p.1, .str n], rfl, (by show 2 ≤ 100000; decide), ?_⟩
            repeat (first | refine we_var rfl ?_)
            refine ⟨_, pair_get (sb _ _ g1), ?_⟩
            rw [pair_has]
            refine ⟨_, rfl, rfl, (by show _ = (decide _ && !decide _); rw [b1]; rfl), fun _ => ?_⟩
            refine we_ptup ?_
            repeat (first | refine we_var rfl ?_ | with_reducible refine wa_cons ?_ | with_reducible refine wa_nil ?_)
            exact ⟨[.str p.1, .str n], rfl, (by show 2 ≤ 100000; decide), rfl, rfl⟩
          · exact ⟨rfl, (by show _ = (decide _ && !decide _); rw [b1]; rfl), fun z => by
              have z' : (decide ((p.2, n) ∈ L) && !decide ((p.1, n) ∈ L)) = true := z
              rw [b1] at z'
              cases z'⟩
        · with_reducible repeat (first | refine wa_nil ?_)
          have hfl := List.length_filter_le (fun n => decide ((p.2, n) ∈ L) && !decide ((p.1, n) ∈ L)) names
          refine on_extend g2 lsd (by rw [src_len, src_len]; omega) ?_
          refine ⟨M ++ (names.filter fun n => decide ((p.2, n) ∈ L) && !decide ((p.1, n) ∈ L)).map fun n => (p.1, n), _, _, rfl, by rw [pu_ne (Ne.symm hma)]; exact g1, by rw [pu_same]; simp only [List.map_append, List.map_map]; rfl, g3.new hmo0, by rw [List.length_append, List.length_map]; omega, fun x z => ?_⟩
          rw [List.mem_append, g5, List.mem_map, List.take_succ, ep]
          constructor
          · rintro (⟨o, h1, h2, h3, h4⟩ | ⟨n, hn, e⟩)
            · exact ⟨o, List.mem_append_left _ h1, h2, h3, h4⟩
            · cases e
              obtain ⟨hn1, hn2⟩ := List.mem_filter.mp hn
              rw [Bool.and_eq_true] at hn2
              exact ⟨p.2, List.mem_append_right _ (by simp), hn1, of_decide_eq_true hn2.1, by simpa using hn2.2⟩
          · rintro ⟨o, h1, h2, h3, h4⟩
            rcases List.mem_append.mp h1 with h1 | h1
            · exact .inl ⟨o, h1, h2, h3, h4⟩
            · have e : (x, o) = p := by simpa using h1
              subst e
              refine .inr ⟨z, List.mem_filter.mpr ⟨h2, ?_⟩, rfl⟩
              rw [Bool.and_eq_true]
              exact ⟨decide_eq_true h3, by simpa using h4⟩
      · rintro γ ρ2 ⟨M, v3, v4, rfl, g1, g2, g3, g4, g5⟩
        rw [src_len] at g4
        rw [src_len, List.take_length] at g5
        with_reducible repeat (first | refine ws_seq ?_)
        refine ws_for (wi_list ?_)
        repeat (first | refine we_var rfl ?_)
        refine ⟨_, lsm g2, fun j γ ρ' => ∃ (L' : List (Str × Str)) (v7 : Option AB.A), γ = [some (.d (.tup (names.map D.str))), some (.d (.tup (ps.map pairD))), some (.m ah), v3, v4, some y, some (.m mo), v7, none] ∧ ρ' ah = some (.dT (pairK L')) ∧ ρ' mo = some (.lst ((M.map pairD).map .d)) ∧ AB.Sub ρ ρ' ∧ L'.Nodup ∧ L'.length ≤ 8100 + j ∧ ∀ x, x ∈ L' ↔ x ∈ L ∨ x ∈ M.take j, ?_, ?_, ?_, ?_⟩
        · exact ⟨L, _, rfl, g1, g2, g3, hA.nd, hLl, fun x => by simp⟩
        · rintro j γ ρ' _ ⟨L', v7, _, _, e, _⟩
          exact lsm e
        · rintro j y2 γ ρ3 ey2 ⟨L', v7, rfl, f1, f2, f3, f4, f5, f6⟩
          obtain ⟨p, ep, rfl⟩ := at_src ey2
          have hj := (List.getElem?_eq_some_iff.mp ep).1
          refine wg_name ?_
          refine ws_dput ?_
          repeat (first | refine we_var rfl ?_ | with_reducible refine we_bl ?_)
          refine ⟨_, pair_put (x := p.1) (y := p.2) f1 (by omega), ?_⟩
          have hle : (insP L' (p.1, p.2)).length ≤ L'.length + 1 := by
            unfold insP
            split
            · omega
            · simp
          refine ⟨insP L' (p.1, p.2), _, rfl, pu_same, by rw [pu_ne hma]; exact f2, f3.new hah, insP_nd f4, by omega, fun x => ?_⟩
          rw [mem_insP, f6, List.take_succ, ep, List.mem_append, or_assoc]
          simp
        · rintro γ ρ3 ⟨L', v7, rfl, f1, f2, f3, f4, f5, f6⟩
          rw [src_len, List.take_length] at f6
          have hA' : Ah ps (i + 1 + 1) L' := by
            refine ⟨f4, fun x z h => ?_, fun k x z hk hp => ?_⟩
            · rcases (f6 _).mp h with h | h
              · exact hA.so x z h
              · obtain ⟨o, q1, q2, q3, q4⟩ := (g5 x z).mp h
                obtain ⟨u, hu⟩ := hA.so o z q3
                exact ⟨1 + u, .more (tie_iff.mpr ⟨rfl, q1⟩) hu⟩
            · cases hp with
              | one h => exact (f6 _).mpr (.inl (hps _ h))
              | @more n _ c _ h p =>
                have hc := hA.all n c z (by omega) p
                refine (f6 _).mpr ?_
                by_cases q : (x, z) ∈ L
                · exact .inl q
                · exact .inr ((g5 x z).mpr ⟨c, h, (SP.mem hB.f (hA.so c z hc)).2, hc, q⟩)
          repeat (first | with_reducible refine ws_if ?_ | refine we_var rfl ?_ | with_reducible refine wt_not ?_ | with_reducible refine wt_tru ?_)
          refine ⟨_, truL (lsm f2), ?_⟩
          refine ⟨fun b => ?_, fun b => ?_⟩
          · have hM : M = [] := by
              cases M with
              | nil => rfl
              | cons a M => cases b
            subst hM
            repeat (first | with_reducible refine ws_ret ?_ | with_reducible refine ws_break ?_ | refine we_var rfl ?_)
            refine hfin f3 f1 fun x z => ⟨fun h => hA'.so x z h, fun h => ?_⟩
            obtain ⟨n, hn⟩ := SP.pn.mp h
            refine closed_all (fun p hp => (f6 _).mpr (.inl (hps p hp))) (fun a c b h1 h2 => ?_) hn
            have h2' : (c, b) ∈ L := ((f6 _).mp h2).resolve_right (by simp)
            refine (f6 _).mpr (.inl ?_)
            by_cases q : (a, b) ∈ L
            · exact q
            · have := (g5 a b).mpr ⟨c, h1, (SP.mem hB.f (hA.so c b h2')).2, h2', q⟩
              simp at this
          · with_reducible repeat (first | refine ws_next ?_)
            exact ⟨L', _, _, _, _, _, rfl, f1, f3, hA'⟩
    · rintro γ ρ' ⟨L, v3, v4, v5, v6, v7, rfl, h1, h2, hA⟩
      rw [rgA_len, show ((names.length : Int) + 1).toNat = names.length + 1 by omega] at hA
      repeat (first | with_reducible refine ws_ret ?_ | refine we_var rfl ?_)
      refine hfin h2 h1 fun x z => ⟨fun h => hA.so x z h, fun h => ?_⟩
      obtain ⟨n, hn⟩ := SP.pn.mp h
      exact hA.all n x z (by have := hn.le hB.f; omega) hn
end
end K82
set_option Elab.async false
set_option linter.all false
set_option maxRecDepth 100000
set_option maxHeartbeats 4000000
namespace K82
open PySem PySem.Spec PyProof.Rows L2 Evl HB AB KX SrtO
section
variable {P : Program} {w : World} {K : PySem.W.Frag} {mg : Str → Option Value} {base : Heap}
/-! ### _law_matched -/
abbrev s_law_matched : Stmt := topS 26
theorem sc_law_matched : FnScope ["names", "ahead", "taken", "begin", "come", "todo", "end", "at", "other", "lap", "one", "last", "name"] ["names", "ahead"] (defScope s_law_matched) := ⟨rfl, rfl, rfl, by decide +kernel, rfl, by decide +kernel, by decide +kernel⟩
/-- pairs of names, as the law holds them -/
structure AhIn (names : List Str) (L : List (Str × Str)) : Prop where
  nd : names.Nodup
  z : names.length ≤ 90
  ne : ∀ x, x ∈ names → x ≠ Str.ofString ""
  inn : ∀ x y, (x, y) ∈ L → x ∈ names ∧ y ∈ names
abbrev SL (L : List (Str × Str)) : Str → Str → Prop := fun x y => (x, y) ∈ L
theorem Wt_all {M came : List (Str × Str)} {name : Str} {S : Str → Str → Prop} {p : Nat} (hp : (Wt M name came).length ≤ p) (hcl : ∀ (j : Nat) (l : Str), j < p → (Wt M name came)[j]? = some l → ∀ r, S l r → r ∈ came.map Prod.fst) :
    ∀ l, (l = name ∨ ∃ q, q ∈ came ∧ valA M q.1 = some l) → ∀ r, S l r → r ∈ came.map Prod.fst := fun l hl r hr => by
  have : ∃ j : Nat, (Wt M name came)[j]? = some l := by
    rcases hl with rfl | ⟨q, hq, hv⟩
    · exact ⟨0, rfl⟩
    · obtain ⟨j, hj, e⟩ := List.mem_iff_getElem.mp hq
      refine ⟨j + 1, ?_⟩
      unfold Wt
      rw [List.getElem?_cons_succ, List.getElem?_map, List.getElem?_eq_getElem hj, e]
      show some ((valA M q.1).getD Str.empty) = _
      rw [hv]
      rfl
  obtain ⟨j, ej⟩ := this
  exact hcl j l (by have := (List.getElem?_eq_some_iff.mp ej).1; omega) ej r hr
theorem Wt_len (M : List (Str × Str)) (name : Str) (came : List (Str × Str)) : (Wt M name came).length = came.length + 1 := by simp [Wt]
theorem getD_strs (o : Option Str) (d : Str) : (o.map fun v => AB.A.d (.str v)).getD (.d (.str d)) = .d (.str (o.getD d)) := by cases o <;> rfl
def FMatch (xs : List AB.A) (ρ : Sto) (R : QA) : Prop := ∃ names ah L, xs = [.d (.tup (names.map D.str)), .m ah] ∧ ρ ah = some (.dT (pairK L)) ∧ AhIn names L ∧ ∀ M, Links (SL L) names M → R (.d (strD M)) ρ
theorem ok_matched {f : Addr} {fd : FuncData} (F : Fun K "_law_matched" "_law_matched" s_law_matched f fd) (T : Tz mg) : FnOk P w K mg base CX0 1 f fd ["names", "ahead"] (spA FMatch) := by
  refine F.ok sc_law_matched (spA_len fun xs ρ R h => ?_) (fun cdv Ar outer s H vs Q E hr h => ?_)
  · obtain ⟨_, _, _, rfl, _⟩ := h
    rfl
  · have hu : _ + 1 < cLine := hu_of hr
    refine ⟨_, (pss_cons (ps_set (i := 2) sc_law_matched.nd rfl (Or.inr rfl) pe_dnewK)
  (pss_cons (ps_for PassesOwn.never rfl (pi_tup (pv 0)) (pg_name (i := 3) sc_law_matched.nd rfl (Or.inl rfl))
  (pss_cons (ps_set (i := 4) sc_law_matched.nd rfl (Or.inr rfl) pe_dnewK)
  (pss_cons (ps_set (i := 5) sc_law_matched.nd rfl (Or.inr rfl) (pe_lst (pa_cons (pv 3) pa_nil)))
  (pss_cons (ps_set (i := 6) sc_law_matched.nd rfl (Or.inl rfl) pe_str)
  (pss_cons (ps_for PassesOwn.never rfl (pi_range1 (by rfl) T.z_range (pa_cons (pe_op op_add (pe_callB call_len_seq (by rfl) T.z_len bt_len (pa_cons (pv 0) pa_nil)) pe_int) pa_nil)) (pg_name (i := 7) sc_law_matched.nd rfl (Or.inr rfl))
  (pss_cons (ps_if (PW.pt (pw_or (pt_cmpR op_ge (pv 7) (pe_callB call_len_seq (by rfl) T.z_len bt_len (pa_cons (pv 5) pa_nil)) (nomark _)) (pw_or1 (pt_cmpR op_ne (pv 6) pe_str (nomark _))))) (pss_one ps_break)
  pss_nil)
  (pss_one (ps_for PassesOwn.never rfl (pi_list (pe_lc (own := [("name", 12)]) rfl sc_law_matched.nd (pi_tup (pv 0)) (blkOk_by (N := ["names", "ahead", "taken", "begin", "come", "todo", "end", "at", "other", "lap", "one", "last", "name"]) (sc := defScope s_law_matched) (by decide +kernel)) (fun _ _ _ _ _ => (pg_name (i := 12) sc_law_matched.nd rfl (Or.inl rfl))) (fun _ _ _ _ _ => (pts_one (PW.pt (pw_and (pt_cmp (pc_din hu (pe_tup (pa_cons (pe_ix (ixR_K (r := rIxL) (K := K) rfl ix_list) (pv 5) (pv 7) (fun _ _ => rfl)) (pa_cons (pv 12) pa_nil))) (pv 1))) (pw_and1 (pt_cmp (pc_dnotin hu (pv 12) (pv 4)))))))) (fun _ _ _ _ _ => (pv 12)))) (pg_name (i := 8) sc_law_matched.nd rfl (Or.inl rfl))
  (pss_cons (ps_dput hu (pv 4) (pv 8) (pe_ix ix_list (pv 5) (pv 7) (fun _ _ => rfl)) rfl)
  (pss_cons (ps_if (pt_cmp (pc_dnotin hu (pv 8) (pv 2))) (pss_cons (ps_set (i := 6) sc_law_matched.nd rfl (Or.inl rfl) (pv 8))
  (pss_one ps_break))
  pss_nil)
  (pss_one (ps_expr (pe_bm PySem.F.plainAttrs_list PySem.F.slot_list_append PySem.F.type_list_append mt_append (pv 5) (pa_cons (pe_dget hu (pv 2) (pv 8) (fun _ _ => rfl)) pa_nil))))))))))
  (pss_one (ps_for PassesOwn.never rfl (pi_range1 (by rfl) T.z_range (pa_cons (pe_op op_add (pe_callB call_len_seq (by rfl) T.z_len bt_len (pa_cons (pv 0) pa_nil)) pe_int) pa_nil)) (pg_name (i := 9) sc_law_matched.nd rfl (Or.inl rfl))
  (pss_cons (ps_if (pt_cmpR op_eq (pv 6) pe_str (nomark _)) (pss_one ps_break)
  pss_nil)
  (pss_cons (ps_set (i := 10) sc_law_matched.nd rfl (Or.inr rfl) (pe_dget hu (pv 4) (pv 6) (fun _ _ => rfl)))
  (pss_cons (ps_setLc (own := [("name", 12)]) (i := 11) rfl sc_law_matched.nd rfl rfl (sw_true rfl rfl rfl (by decide +kernel)) (pi_tup (pv 0)) (blkOk_by (N := ["names", "ahead", "taken", "begin", "come", "todo", "end", "at", "other", "lap", "one", "last", "name"]) (sc := defScope s_law_matched) (by decide +kernel)) (fun _ _ _ _ _ => (pg_name (i := 12) sc_law_matched.nd rfl (Or.inl rfl))) (fun _ _ _ _ _ => (pts_one (pt_cmpR op_eq (pe_dget2 hu (pv 2) (pv 12) pe_str ⟨rfl, rfl, rfl, rfl⟩) (pv 10) (nomark _)))) (fun _ _ _ _ _ => (pv 12)))
  (pss_cons (ps_dput hu (pv 2) (pv 6) (pv 10) rfl)
  (pss_one (ps_set (i := 6) sc_law_matched.nd rfl (Or.inl rfl) (pe_ifExp (pt_truth (pv 11) (fun _ => rfl)) (pe_ix ix_list (pv 11) pe_int (fun _ _ => rfl)) pe_str))))))))))))))
  (pss_one (ps_frz (ps_ret (pv 2)))))), body_of h fun ρ xs R hF => ?_⟩
    obtain ⟨names, ah, L, rfl, hah, hN, k⟩ := hF
    have hz := hN.z
    have hlen : ∀ M' : List (Str × Str), (M'.map Prod.fst).Nodup → (∀ x l, valA M' x = some l → SL L l x) → M'.length ≤ 90 := fun M' nd ed => by
      have := KN.nodup_len nd (m := names) fun x hx => by
        obtain ⟨z, hz, rfl⟩ := List.mem_map.mp hx
        exact (hN.inn _ _ (ed _ _ (valA_of nd (x := z.1) (v := z.2) hz))).2
      rw [List.length_map] at this
      exact Nat.le_trans this hN.z
    with_reducible repeat (first | refine ws_seq ?_ | refine ws_asg ?_)
    refine we_dictM fun tk htk => ?_
    with_reducible repeat (first | refine ws_seq ?_ | refine wg_name ?_)
    have tka : tk ≠ ah := fun z => by rw [z, hah] at htk; cases htk
    refine ws_for (wi_tup ?_)
    repeat (first | refine we_var rfl ?_)
    refine ⟨_, rfl, fun i γ ρ' => ∃ (M : List (Str × Str)) (v3 v4 v5 v6 v7 v8 v9 va vb : Option AB.A), γ = [some (.d (.tup (names.map D.str))), some (.m ah), some (.m tk), v3, v4, v5, v6, v7, v8, v9, va, vb, none] ∧ ρ' tk = some (.dK (strK M)) ∧ AB.Sub ρ ρ' ∧ Links (SL L) (names.take i) M, ?_, fun _ _ _ _ _ => trivial, ?_, ?_⟩
    · exact ⟨[], _, _, _, _, _, _, _, _, _, rfl, pu_same, (AB.Sub.refl ρ).new htk, links_nil⟩
    · rintro i y γ ρ' ey ⟨M, v3, v4, v5, v6, v7, v8, v9, va, vb, rfl, htk1, hs1, hL⟩
      obtain ⟨b, eb, rfl⟩ := at_src ey
      have hbn : b ∈ names := List.mem_of_getElem? eb
      have htake : names.take (i + 1) = names.take i ++ [b] := by rw [List.take_succ, eb]; rfl
      have hnew : b ∉ names.take i := fun m => by
        obtain ⟨j, hj, e⟩ := List.mem_iff_getElem.mp m
        rw [List.length_take] at hj
        rw [List.getElem_take] at e
        have := KN.nodup_at hN.nd (i := i) (j := j) eb (by rw [List.getElem?_eq_getElem (by omega), e])
        omega
      have hMl := hlen M hL.m.nd hL.m.edge
      refine wg_name ?_
      with_reducible repeat (first | refine ws_seq ?_ | refine ws_asg ?_)
      refine we_dictM fun co hco => ?_
      with_reducible repeat (first | refine ws_seq ?_ | refine ws_asg ?_ | refine wg_name ?_)
      have cot : co ≠ tk := fun z => by rw [z, htk1] at hco; cases hco
      have coa : co ≠ ah := fun z => by rw [z, hs1 ah _ hah] at hco; cases hco
      have hco0 := none_of hs1 hco
      refine we_lstM ?_
      repeat (first | refine we_var rfl ?_ | with_reducible refine wa_cons ?_ | with_reducible refine wa_nil ?_)
      refine ⟨by show 1 ≤ 100000; decide, fun td htd => ?_⟩
      with_reducible repeat (first | refine ws_seq ?_ | refine ws_asg ?_ | refine wg_name ?_ | refine we_str ?_)
      have tdc : td ≠ co := fun z => by rw [z, pu_same] at htd; cases htd
      have htd1 : ρ' td = none := by rw [pu_ne tdc] at htd; exact htd
      have tdt : td ≠ tk := fun z => by rw [z, htk1] at htd1; cases htd1
      have tda : td ≠ ah := fun z => by rw [z, hs1 ah _ hah] at htd1; cases htd1
      have htd0 := none_of hs1 htd1
      -- the search
      refine WS.thn (P := fun γ ρ2 => ∃ (came : List (Str × Str)) (e : Str) (v5 v7 v8 : Option AB.A), γ = [some (.d (.tup (names.map D.str))), some (.m ah), some (.m tk), some (.d (.str b)), some (.m co), v5, some (.d (.str e)), v7, v8, v9, va, vb, none] ∧ ρ2 tk = some (.dK (strK M)) ∧ ρ2 co = some (.dK (strK came)) ∧ AB.Sub ρ ρ2 ∧
        ((e = Str.ofString "" ∧ Links (SL L) (names.take i ++ [b]) M) ∨ (Found (SL L) M b came ∧ ∃ q, q.1 = e ∧ Turn (SL L) (names.take i) M came (came.length - 1) q M))) ?_ ?_
      · refine ws_for (wi_rng1 ?_)
        repeat (first | with_reducible refine we_op ?_ | refine we_var rfl ?_ | with_reducible refine we_int ?_ | with_reducible refine wa_cons ?_ | with_reducible refine wa_nil ?_ | with_reducible refine we_cb ?_ | refine o2_I0 (fun _ => Rep.int _) ?_ | with_reducible refine on_lenT ?_)
        rw [List.length_map]
        refine ⟨_, rfl, by omega, ?_⟩
        rw [show ((names.length : Int) + 1).toNat = names.length + 1 by omega]
        refine ⟨fun p γ ρ2 => ∃ (came : List (Str × Str)) (W : List Str) (e : Str) (v5 v7 v8 : Option AB.A), γ = [some (.d (.tup (names.map D.str))), some (.m ah), some (.m tk), some (.d (.str b)), some (.m co), some (.m td), some (.d (.str e)), v7, v8, v9, va, vb, none] ∧ ρ2 tk = some (.dK (strK M)) ∧ ρ2 co = some (.dK (strK came)) ∧ ρ2 td = some (.lst ((W.map D.str).map .d)) ∧ AB.Sub ρ ρ2 ∧
          ((e = Str.ofString "" ∧ W = Wt M b came ∧ Found (SL L) M b came ∧ Met M came ∧ ∀ (j : Nat) (l : Str), j < p → (Wt M b came)[j]? = some l → ∀ r, SL L l r → r ∈ came.map Prod.fst) ∨ (e ≠ Str.ofString "" ∧ Found (SL L) M b came ∧ ∃ q, q.1 = e ∧ Turn (SL L) (names.take i) M came (came.length - 1) q M)), ?_, fun _ _ _ _ _ => trivial, ?_, ?_⟩
        · refine ⟨[], [b], _, none, _, _, rfl, by rw [pu_ne (Ne.symm tdt), pu_ne (Ne.symm cot)]; exact htk1, by rw [pu_ne (Ne.symm tdc)]; exact pu_same, pu_same, (hs1.new hco0).new htd0, .inl ⟨rfl, rfl, ⟨by simp, fun k p h => by simp at h⟩, fun p hp => by simp at hp, fun j l h => by omega⟩⟩
        · rintro p y γ ρ2 ey ⟨came, W, e, v5, v7, v8, rfl, h1, h2, h3, h4, hst⟩
          obtain ⟨hp, rfl⟩ := rgA_at ey
          refine wg_name ?_
          repeat (first | with_reducible refine ws_seq ?_ | with_reducible refine ws_if ?_ | with_reducible refine we_op ?_ | refine we_var rfl ?_ | with_reducible refine wa_cons ?_ | with_reducible refine wa_nil ?_ | with_reducible refine we_cb ?_ | with_reducible refine wt_test ?_ | with_reducible refine wt_or ?_)
          refine on_len (lsm h3) ?_
          repeat (first | refine ⟨_, (rfl : AB.A.d (D.bl _) = _), ?_⟩ | refine o2_I0 (fun _ => Rep.bl _) ?_)
          rw [src_len]
          refine ⟨fun b1 => ?_, fun b1 => ?_⟩
          · refine ⟨fun _ => ?_, fun z => (by cases z)⟩
            with_reducible repeat (first | refine ws_break ?_)
            refine ⟨came, e, _, _, _, rfl, h1, h2, h4, ?_⟩
            rcases hst with ⟨rfl, rfl, hF, hM, hc⟩ | ⟨_, hF, hq⟩
            · have hle : (Wt M b came).length ≤ p := by
                have := of_decide_eq_true b1
                omega
              exact .inl ⟨rfl, hL.fail hM (Wt_all hle hc)⟩
            · exact .inr ⟨hF, hq⟩
          repeat (first | with_reducible refine we_op ?_ | refine we_var rfl ?_ | with_reducible refine we_str ?_ | with_reducible refine wt_test ?_ | refine ⟨_, (rfl : AB.A.d (D.bl _) = _), ?_⟩ | with_reducible refine o2_neS ?_)
          refine ⟨fun b2 => ?_, fun b2 => ?_⟩
          · with_reducible repeat (first | refine ws_break ?_)
            refine ⟨came, e, _, _, _, rfl, h1, h2, h4, ?_⟩
            rcases hst with ⟨rfl, _⟩ | ⟨_, hF, hq⟩
            · simp at b2
            · exact .inr ⟨hF, hq⟩
          have he : e = Str.ofString "" := by simpa using b2
          obtain ⟨rfl, rfl, hF, hM, hc⟩ := hst.resolve_right fun h => h.1 he
          have hpl : p < (Wt M b came).length := by
            have := of_decide_eq_false b1
            omega
          obtain ⟨l, el⟩ : ∃ l, (Wt M b came)[p]? = some l := ⟨_, List.getElem?_eq_getElem hpl⟩
          have hcl : came.length ≤ names.length := hF.names_ fun x y h => (hN.inn x y h).2
          let cc : Str → Bool := fun n => decide ((l, n) ∈ L) && !(valA came n).isSome
          let ots : List Str := names.filter cc
          have hots : ∀ x, x ∈ ots ↔ SL L l x ∧ x ∉ came.map Prod.fst := fun x => by
            show x ∈ names.filter cc ↔ _
            rw [List.mem_filter]
            show x ∈ names ∧ (decide ((l, x) ∈ L) && !(valA came x).isSome) = true ↔ _
            rw [Bool.and_eq_true, decide_eq_true_eq, ← valA_none]
            constructor
            · rintro ⟨_, h1, h2⟩
              refine ⟨h1, ?_⟩
              cases q : valA came x with
              | none => rfl
              | some v => rw [q] at h2; cases h2
            · rintro ⟨h1, h2⟩
              exact ⟨(hN.inn _ _ h1).2, h1, by rw [h2]; rfl⟩
          have ndo : ots.Nodup := hN.nd.filter _
          refine ws_next ?_
          refine ws_for (wi_list (we_lcF (wi_tup ?_)))
          repeat (first | refine we_var rfl ?_)
          refine ⟨_, rfl, Str, names, D.str, D.str, cc, rfl, fun _ _ => trivial, by omega, fun n hn ρx sb => ?_, ?_⟩
          · refine wgv_name (by decide) ⟨rfl, ?_⟩
            refine wt_and (wt_B (we_din (we_ptup ?_)))
            repeat (first | with_reducible refine we_op ?_ | refine we_var rfl ?_ | with_reducible refine wa_cons ?_)
            refine o2_ixL (lsm (sb _ _ h3)) (z := .d (.str l)) (by rw [Int.zero_add]; exact atI_nat' (src_at el)) ?_
            repeat (first | refine we_var rfl ?_ | with_reducible refine wa_cons ?_ | with_reducible refine wa_nil ?_)
            refine ⟨[.str l, .str n], rfl, (by show 2 ≤ 100000; decide), ?_⟩
            repeat (first | refine we_var rfl ?_)
            refine ⟨_, pair_get (sb _ _ (h4 _ _ hah)), ?_⟩
            rw [pair_has]
            refine ⟨_, rfl, fun b3 => ?_, fun b3 => ?_⟩
            · repeat (first | refine we_var rfl ?_ | with_reducible refine wt_B ?_ | with_reducible refine we_dnotin ?_)
              refine ⟨_, str_get (sb _ _ h2), ?_⟩
              rw [isSome_map]
              refine ⟨_, rfl, rfl, (by show _ = (decide _ && !(valA came n).isSome); rw [b3]; rfl), fun _ => ?_⟩
              repeat (first | refine we_var rfl ?_)
              exact ⟨rfl, rfl⟩
            · exact ⟨rfl, (by show _ = (decide _ && !(valA came n).isSome); rw [b3]; rfl), fun z => by
                have z' : (decide ((l, n) ∈ L) && !(valA came n).isSome) = true := z
                rw [b3] at z'
                cases z'⟩
          refine ⟨_, lsd, fun k γ ρ3 => ∃ (came' : List (Str × Str)) (v8 : Option AB.A), γ = [some (.d (.tup (names.map D.str))), some (.m ah), some (.m tk), some (.d (.str b)), some (.m co), some (.m td), some (.d (.str (Str.ofString ""))), some (.d (.int (0 + (p : Nat)))), v8, v9, va, vb, none] ∧ ρ3 tk = some (.dK (strK M)) ∧ ρ3 co = some (.dK (strK came')) ∧ ρ3 td = some (.lst (((Wt M b came').map D.str).map .d)) ∧ AB.Sub ρ ρ3 ∧
            Found (SL L) M b came' ∧ Met M came' ∧ (∀ (j : Nat) (l : Str), j < p → (Wt M b came')[j]? = some l → ∀ r, SL L l r → r ∈ came'.map Prod.fst) ∧ (Wt M b came')[p]? = some l ∧ came' = came ++ (ots.take k).map fun o => (o, l), ?_, fun _ _ _ _ _ => lsd, ?_, ?_⟩
          · exact ⟨came, _, rfl, h1, h2, h3, h4, hF, hM, hc, el, by simp⟩
          · rintro k y γ ρ3 ey ⟨came', v8, rfl, h1, h2, h3, h4, hF, hM, hc, el', hce⟩
            obtain ⟨o, eo, rfl⟩ := at_src ey
            have ho := (hots o).mp (List.mem_of_getElem? eo)
            have hnk : o ∉ came'.map Prod.fst := fun m => by
              rw [hce, List.map_append] at m
              rcases List.mem_append.mp m with z | z
              · exact ho.2 z
              · rw [List.map_map] at z
                obtain ⟨o', ho', eo'⟩ := List.mem_map.mp z
                obtain ⟨j, hj, ej⟩ := List.mem_iff_getElem.mp ho'
                rw [List.length_take] at hj
                rw [List.getElem_take] at ej
                have eo2 : o' = o := eo'
                have := KN.nodup_at ndo (i := k) (j := j) eo (by rw [List.getElem?_eq_getElem (by omega), ej, eo2])
                omega
            have hF5 := hF.app hnk ho.1 (Wt_at hM el')
            have hcl' : came'.length ≤ names.length := hF.names_ fun x y h => (hN.inn x y h).2
            refine wg_name ?_
            with_reducible repeat (first | refine ws_seq ?_)
            refine ws_dput ?_
            repeat (first | with_reducible refine we_op ?_ | refine we_var rfl ?_)
            refine o2_ixL (lsm h3) (z := .d (.str l)) (by rw [Int.zero_add]; exact atI_nat' (src_at el')) ?_
            repeat (first | refine we_var rfl ?_)
            refine ⟨_, .inl ⟨co, _, .inr o, rfl, h2, rfl, by unfold strK; rw [List.length_map]; omega, rfl⟩, ?_⟩
            rw [strK_put, putA_end hnk]
            have htk5 : (pu ρ3 co (.dK (strK (came' ++ [(o, l)])))) tk = some (.dK (strK M)) := by rw [pu_ne (Ne.symm cot)]; exact h1
            have htd5 : (pu ρ3 co (.dK (strK (came' ++ [(o, l)])))) td = some (.lst (((Wt M b came').map D.str).map .d)) := by rw [pu_ne tdc]; exact h3
            refine ws_seq (ws_if (wt_B (we_dnotin ?_)))
            repeat (first | refine we_var rfl ?_)
            refine ⟨_, str_get htk5, ?_⟩
            rw [isSome_map]
            refine ⟨_, rfl, fun b3 => ?_, fun b3 => ?_⟩
            · have hMo : valA M o = none := by
                cases q : valA M o with
                | none => rfl
                | some v => rw [q] at b3; cases b3
              repeat (first | with_reducible refine ws_seq ?_ | with_reducible refine ws_asg ?_ | with_reducible refine ws_break ?_ | with_reducible refine wg_name ?_ | refine we_var rfl ?_)
              refine ⟨came' ++ [(o, l)], Wt M b came', o, none, _, _, rfl, htk5, pu_same, htd5, h4.new hco0, .inr ⟨hN.ne o (hN.inn _ _ ho.1).2, hF5, (o, l), rfl, ?_⟩⟩
              have := Turn.start (came := came') (l := l) hL hMo
              rw [List.length_append, List.length_singleton, Nat.add_sub_cancel]
              exact this
            · obtain ⟨v, ev⟩ : ∃ v, valA M o = some v := by
                cases q : valA M o with
                | none => rw [q] at b3; cases b3
                | some v => exact ⟨v, rfl⟩
              with_reducible repeat (first | refine ws_drop ?_ | refine ws_next ?_)
              refine we_bm ?_
              repeat (first | refine we_var rfl ?_)
              refine ⟨ty_lst htd5, wa_cons (we_dget ?_)⟩
              repeat (first | refine we_var rfl ?_)
              refine ⟨.d (.str v), by have := str_get (x := o) htk5; rw [ev] at this; exact this, ?_⟩
              with_reducible repeat (first | refine wa_nil ?_)
              refine on_append htd5 (by rw [src_len, Wt_len]; omega) ?_
              have eW : Wt M b (came' ++ [(o, l)]) = Wt M b came' ++ [v] := by
                rw [Wt_app]
                show _ ++ [(valA M o).getD Str.empty] = _
                rw [ev]
                rfl
              refine ⟨came' ++ [(o, l)], _, rfl, by rw [pu_ne (Ne.symm tdt)]; exact htk5, by rw [pu_ne (Ne.symm tdc)]; exact pu_same, by rw [pu_same, eW]; simp only [List.map_append]; rfl, (h4.new hco0).new htd0, hF5, fun z hz => ?_, fun j l' hj e r' hr' => ?_, ?_, ?_⟩
              · rcases List.mem_append.mp hz with w | w
                · exact hM z w
                · rw [List.mem_singleton.mp w]
                  exact ⟨v, ev⟩
              · rw [eW, List.getElem?_append_left (by have := (List.getElem?_eq_some_iff.mp el').1; omega)] at e
                rw [List.map_append]
                exact List.mem_append_left _ (hc j l' hj e r' hr')
              · rw [eW, List.getElem?_append_left (List.getElem?_eq_some_iff.mp el').1]
                exact el'
              · rw [hce, List.take_succ, eo, List.map_append, List.append_assoc]
                rfl
          · rintro γ ρ3 ⟨came', v8, rfl, h1, h2, h3, h4, hF, hM, hc, el', hce⟩
            rw [src_len, List.take_length] at hce
            refine ⟨came', Wt M b came', Str.ofString "", none, _, _, rfl, h1, h2, h3, h4, .inl ⟨rfl, rfl, hF, hM, fun j l' hj e r' hr' => ?_⟩⟩
            rcases Nat.lt_or_ge j p with z | z
            · exact hc j l' z e r' hr'
            · have : j = p := by omega
              rw [this, el'] at e
              cases e
              by_cases q : r' ∈ came.map Prod.fst
              · rw [hce, List.map_append]
                exact List.mem_append_left _ q
              · rw [hce, List.map_append, List.map_map]
                exact List.mem_append_right _ (List.mem_map.mpr ⟨r', (hots r').mpr ⟨hr', q⟩, rfl⟩)
        · rintro γ ρ2 ⟨came, W, e, v5, v7, v8, rfl, h1, h2, h3, h4, hst⟩
          rw [rgA_len] at hst
          refine ⟨came, e, _, _, _, rfl, h1, h2, h4, ?_⟩
          rcases hst with ⟨rfl, rfl, hF, hM, hc⟩ | ⟨_, hF, hq⟩
          · have hcl : came.length ≤ names.length := hF.names_ fun x y h => (hN.inn x y h).2
            exact .inl ⟨rfl, hL.fail hM (Wt_all (by rw [Wt_len]; omega) hc)⟩
          · exact .inr ⟨hF, hq⟩
      · -- the path is turned
        rintro γ ρ2 ⟨cF, e, v5, v7, v8, rfl, h1, h2, h4, hst⟩
        skip
        refine ws_for (wi_rng1 ?_)
        repeat (first | with_reducible refine we_op ?_ | refine we_var rfl ?_ | with_reducible refine we_int ?_ | with_reducible refine wa_cons ?_ | with_reducible refine wa_nil ?_ | with_reducible refine we_cb ?_ | refine o2_I0 (fun _ => Rep.int _) ?_ | with_reducible refine on_lenT ?_)
        rw [List.length_map]
        refine ⟨_, rfl, by omega, ?_⟩
        rw [show ((names.length : Int) + 1).toNat = names.length + 1 by omega]
        have hfin : ∀ {γ' : AB.Env} {ρ' : Sto} {M' : List (Str × Str)} {v3 v4 v5 v6 v7 v8 v9 va vb : Option AB.A}, γ' = [some (.d (.tup (names.map D.str))), some (.m ah), some (.m tk), v3, v4, v5, v6, v7, v8, v9, va, vb, none] → ρ' tk = some (.dK (strK M')) → AB.Sub ρ ρ' → Links (SL L) (names.take i ++ [b]) M' → ∃ (M : List (Str × Str)) (v3 v4 v5 v6 v7 v8 v9 va vb : Option AB.A), γ' = [some (.d (.tup (names.map D.str))), some (.m ah), some (.m tk), v3, v4, v5, v6, v7, v8, v9, va, vb, none] ∧ ρ' tk = some (.dK (strK M)) ∧ AB.Sub ρ ρ' ∧ Links (SL L) (names.take (i + 1)) M := fun e1 e2 e3 e4 => ⟨_, _, _, _, _, _, _, _, _, _, e1, e2, e3, by rw [htake]; exact e4⟩
        refine ⟨fun lap γ ρ3 => ∃ (M' : List (Str × Str)) (e : Str) (v9 va vb : Option AB.A), γ = [some (.d (.tup (names.map D.str))), some (.m ah), some (.m tk), some (.d (.str b)), some (.m co), v5, some (.d (.str e)), v7, v8, v9, va, vb, none] ∧ ρ3 tk = some (.dK (strK M')) ∧ ρ3 co = some (.dK (strK cF)) ∧ AB.Sub ρ ρ3 ∧
          ((e = Str.ofString "" ∧ Links (SL L) (names.take i ++ [b]) M') ∨ (Found (SL L) M b cF ∧ ∃ k q, q.1 = e ∧ Turn (SL L) (names.take i) M cF k q M' ∧ k + lap < names.length)), ?_, fun _ _ _ _ _ => trivial, ?_, ?_⟩
        · refine ⟨M, e, _, _, _, rfl, h1, h2, h4, ?_⟩
          rcases hst with hst | ⟨hF, q, hq, hU⟩
          · exact .inl hst
          · refine .inr ⟨hF, _, q, hq, hU, ?_⟩
            have h9 : cF.length ≤ names.length := hF.names_ fun x y h => (hN.inn x y h).2
            have h8 := (List.getElem?_eq_some_iff.mp hU.at_).1
            omega
        · rintro lap y γ ρ3 ey ⟨M', e, v9, va, vb, rfl, h1, h2, h4, hst⟩
          obtain ⟨hlap, rfl⟩ := rgA_at ey
          refine wg_name ?_
          repeat (first | with_reducible refine ws_seq ?_ | with_reducible refine ws_if ?_ | with_reducible refine we_op ?_ | refine we_var rfl ?_ | with_reducible refine we_str ?_ | with_reducible refine wt_test ?_ | refine ⟨_, (rfl : AB.A.d (D.bl _) = _), ?_⟩ | with_reducible refine o2_eqS ?_)
          refine ⟨fun b1 => ?_, fun b1 => ?_⟩
          · have he : e = Str.ofString "" := of_decide_eq_true b1
            with_reducible repeat (first | refine ws_break ?_)
            rcases hst with ⟨_, hE⟩ | ⟨hF, kk, q, hq, hU, _⟩
            · exact hfin rfl h1 h4 hE
            · exfalso
              rw [← hq] at he
              exact hN.ne q.1 (hN.inn _ _ (hF.by_ kk q hU.at_).1).2 he
          have hne : e ≠ Str.ofString "" := of_decide_eq_false b1
          obtain ⟨hF, kk, q, rfl, hU, hkk⟩ := hst.resolve_left fun h => hne h.1
          have hq2 : valA cF q.1 = some q.2 := valA_of hF.nd (List.mem_of_getElem? hU.at_)
          have hM'l := hlen M' hU.nd hU.edge
          have hq2n : q.2 ≠ Str.ofString "" := hN.ne q.2 (hN.inn _ _ (hF.by_ kk q hU.at_).1).1
          with_reducible repeat (first | refine ws_seq ?_ | refine ws_asg ?_ | refine ws_next ?_)
          refine we_dget ?_
          repeat (first | refine we_var rfl ?_)
          refine ⟨.d (.str q.2), by have := str_get (x := q.1) h2; rw [hq2] at this; exact this, ?_⟩
          with_reducible repeat (first | refine ws_seq ?_ | refine ws_asg ?_ | refine wg_name ?_)
          let cc : Str → Bool := fun n => decide ((valA M' n).getD (Str.ofString "") = q.2)
          have hcc : ∀ n, cc n = true ↔ valA M' n = some q.2 := fun n => by
            show decide ((valA M' n).getD (Str.ofString "") = q.2) = true ↔ _
            rw [decide_eq_true_eq]
            cases z : valA M' n with
            | none => exact ⟨fun h => absurd h.symm hq2n, fun h => by cases h⟩
            | some v => exact ⟨fun h => by rw [show v = q.2 from h], fun h => by rw [Option.some.inj h]; rfl⟩
          refine we_lcF (wi_tup ?_)
          repeat (first | refine we_var rfl ?_)
          refine ⟨_, rfl, Str, names, D.str, D.str, cc, rfl, fun _ _ => trivial, by omega, fun n hn ρx sb => ?_, ?_⟩
          · refine wgv_name (by decide) ⟨rfl, wt_test (we_op (we_dget2 ?_))⟩
            repeat (first | refine we_var rfl ?_)
            refine ⟨.inl ⟨tk, _, rfl, sb _ _ h1⟩, ?_⟩
            repeat (first | refine we_var rfl ?_ | with_reducible refine we_str ?_)
            refine ⟨_, str_get (sb _ _ h1), ?_⟩
            rw [getD_strs]
            repeat (first | refine we_var rfl ?_ | refine ⟨_, (rfl : AB.A.d (D.bl _) = _), ?_⟩ | with_reducible refine o2_eqS ?_)
            refine ⟨rfl, rfl, fun _ => ?_⟩
            repeat (first | refine we_var rfl ?_)
            exact ⟨rfl, rfl⟩
          with_reducible repeat (first | refine ws_seq ?_ | refine wg_name ?_)
          refine ws_dput ?_
          repeat (first | refine we_var rfl ?_)
          refine ⟨_, .inl ⟨tk, _, .inr q.1, rfl, h1, rfl, by unfold strK; rw [List.length_map]; omega, rfl⟩, ?_⟩
          rw [strK_put]
          repeat (first | with_reducible refine ws_asg ?_ | refine we_var rfl ?_ | with_reducible refine we_if ?_ | with_reducible refine wt_tru ?_)
          have hs5 : AB.Sub ρ (pu ρ3 tk (.dK (strK (putA M' q.1 q.2)))) := h4.new htk
          have hc5 : (pu ρ3 tk (.dK (strK (putA M' q.1 q.2)))) co = some (.dK (strK cF)) := by rw [pu_ne cot]; exact h2
          by_cases hl : q.2 = b
          · have hE := hU.end_ hL hF hl hnew
            have hnil : names.filter cc = [] := by
              rw [List.filter_eq_nil_iff]
              intro x hx hc
              exact hnew (by rw [← hl]; exact hU.ran x _ ((hcc x).mp hc))
            rw [hnil]
            refine ⟨_, truL lsd, fun b2 => (by cases b2), fun _ => ?_⟩
            with_reducible repeat (first | refine wg_name ?_ | refine we_str ?_)
            exact ⟨_, Str.ofString "", _, _, _, rfl, pu_same, hc5, hs5, .inl ⟨rfl, hE⟩⟩
          · obtain ⟨j, r, hj, eM, uq, hU'⟩ := hU.next hL hF hl
            have hr : r.1 ∈ names.filter cc := List.mem_filter.mpr ⟨(hN.inn _ _ (hF.by_ j r hU'.at_).1).2, (hcc _).mpr eM⟩
            obtain ⟨x0, l0, e0⟩ : ∃ x0 l0, names.filter cc = x0 :: l0 := by
              cases z : names.filter cc with
              | nil => rw [z] at hr; simp at hr
              | cons x0 l0 => exact ⟨x0, l0, rfl⟩
            have hx0 : x0 = r.1 := uq x0 ((hcc _).mp (List.mem_filter.mp (by rw [e0]; exact List.mem_cons_self)).2)
            rw [e0]
            refine ⟨_, truL lsd, fun _ => ?_, fun b2 => (by cases b2)⟩
            repeat (first | with_reducible refine we_op ?_ | refine we_var rfl ?_ | with_reducible refine we_int ?_)
            refine o2_ixL lsd (i := ((0 : Nat) : Int)) (atI_nat' rfl) ?_
            rw [hx0]
            with_reducible repeat (first | refine wg_name ?_)
            exact ⟨_, r.1, _, _, _, rfl, pu_same, hc5, hs5, .inr ⟨hF, j, r, rfl, hU', by omega⟩⟩
        · rintro γ ρ3 ⟨M', e, v9, va, vb, rfl, h1, h2, h4, hst⟩
          rw [rgA_len] at hst
          rcases hst with ⟨_, hE⟩ | ⟨hF, kk, q, hq, hU, hk⟩
          · exact hfin rfl h1 h4 hE
          · omega
    · rintro γ ρ' ⟨M, v3, v4, v5, v6, v7, v8, v9, va, vb, rfl, htk', hs, hL⟩
      rw [src_len, List.take_length] at hL
      skip
      refine ws_frz (i := 2) rfl (ks := M.map fun p => (Sum.inr p.1 : Key)) (ds := M.map fun p => D.str p.2) ?_ (by rw [List.length_map, List.length_map]) ?_
      · rw [htk', strK_zip]
      · repeat (first | with_reducible refine ws_ret ?_ | refine we_var rfl ?_)
        exact ⟨_, sub_rm hs htk, k M hL⟩
end
end K82
set_option Elab.async false
set_option linter.all false
set_option maxRecDepth 100000
set_option maxHeartbeats 4000000
namespace K82
open PySem PySem.Spec PyProof.Rows L2 Evl HB AB KX SrtO
section
variable {P : Program} {w : World} {K : PySem.W.Frag} {mg : Str → Option Value} {base : Heap}
theorem filter_one {α : Type} {p : α → Bool} : ∀ {l : List α} {y : α}, l.Nodup → y ∈ l → p y = true → (∀ x, x ∈ l → p x = true → x = y) → l.filter p = [y]
  | [], y, _, h, _, _ => by simp at h
  | a :: l, y, nd, h, hp, hu => by
    have nd' := List.nodup_cons.mp nd
    rw [List.filter_cons]
    by_cases e : a = y
    · subst e
      rw [if_pos hp, List.filter_eq_nil_iff.mpr]
      intro x hx hc
      have := hu x (List.mem_cons_of_mem _ hx) hc
      rw [this] at hx
      exact nd'.1 hx
    · have hy := (List.mem_cons.mp h).resolve_left fun z => e z.symm
      rw [if_neg fun z => e (hu a List.mem_cons_self z)]
      exact filter_one nd'.2 hy hp fun x hx => hu x (List.mem_cons_of_mem _ hx)
/-! ### _law_rows -/
abbrev s_law_rows : Stmt := topS 27
theorem sc_law_rows : FnScope ["names", "taken", "rows", "name", "row", "lap", "behind", "other"] ["names", "taken"] (defScope s_law_rows) := ⟨rfl, rfl, rfl, by decide +kernel, rfl, by decide +kernel, by decide +kernel⟩
def FLRows (xs : List AB.A) (ρ : Sto) (R : QA) : Prop := ∃ names L M, xs = [.d (.tup (names.map D.str)), .d (strD M)] ∧ AhIn names L ∧ Matched (SL L) M ∧
  ∀ rs rs' : List (List Str), rs.map (fun r => r[0]?) = (names.filter fun x => !(valA M x).isSome).map some → (∀ r, r ∈ rs → RowEnd M r) → rs'.Perm rs → Srtd ltS rs' → R (.d (.tup (rs'.map tupD))) ρ
theorem ok_lrows {f : Addr} {fd : FuncData} (F : Fun K "_law_rows" "_law_rows" s_law_rows f fd) (T : Tz mg) : FnOk P w K mg base CX0 1 f fd ["names", "taken"] (spA FLRows) := by
  refine F.ok sc_law_rows (spA_len fun xs ρ R h => ?_) (fun cdv Ar outer s H vs Q E hr h => ?_)
  · obtain ⟨_, _, _, rfl, _⟩ := h
    rfl
  · have hu : _ + 1 < cLine := hu_of hr
    have hu64 : _ + 64 < cLine := hr.units
    refine ⟨_, (pss_cons (ps_set (i := 2) sc_law_rows.nd rfl (Or.inl rfl) (pe_lst pa_nil))
  (pss_cons (ps_for PassesOwn.never rfl (pi_list (pe_lc (own := [("name", 3)]) rfl sc_law_rows.nd (pi_tup (pv 0)) (blkOk_by (N := ["names", "taken", "rows", "name", "row", "lap", "behind", "other"]) (sc := defScope s_law_rows) (by decide +kernel)) (fun _ _ _ _ _ => (pg_name (i := 3) sc_law_rows.nd rfl (Or.inl rfl))) (fun _ _ _ _ _ => (pts_one (pt_cmp (pc_dnotin hu (pv 3) (pv 1))))) (fun _ _ _ _ _ => (pv 3)))) (pg_name (i := 3) sc_law_rows.nd rfl (Or.inl rfl))
  (pss_cons (ps_set (i := 4) sc_law_rows.nd rfl (Or.inr rfl) (pe_lst (pa_cons (pv 3) pa_nil)))
  (pss_cons (ps_for PassesOwn.never rfl (pi_range1 (by rfl) T.z_range (pa_cons (pe_callB call_len_seq (by rfl) T.z_len bt_len (pa_cons (pv 0) pa_nil)) pa_nil)) (pg_name (i := 5) sc_law_rows.nd rfl (Or.inl rfl))
  (pss_cons (ps_setLc (own := [("other", 7)]) (i := 6) rfl sc_law_rows.nd rfl rfl (sw_true rfl rfl rfl (by decide +kernel)) (pi_tup (pv 0)) (blkOk_by (N := ["names", "taken", "rows", "name", "row", "lap", "behind", "other"]) (sc := defScope s_law_rows) (by decide +kernel)) (fun _ _ _ _ _ => (pg_name (i := 7) sc_law_rows.nd rfl (Or.inl rfl))) (fun _ _ _ _ _ => (pts_one (pt_cmpR op_eq (pe_dget2 hu (pv 1) (pv 7) pe_str ⟨rfl, rfl, rfl, rfl⟩) (pe_ix (ixR_K (r := rIxL) (K := K) rfl ix_list) (pv 4) (pe_op op_sub (pe_callB (callR_K (r := rLenK) (K := K) rfl call_len_seq) (by rfl) T.z_len bt_len (pa_cons (pv 4) pa_nil)) pe_int) (fun _ _ => rfl)) (nomark _)))) (fun _ _ _ _ _ => (pv 7)))
  (pss_cons (ps_expr (pe_bm PySem.F.plainAttrs_list PySem.F.slot_list_extend PySem.F.type_list_extend mt_extend (pv 4) (pa_cons (pv 6) pa_nil)))
  (pss_one (ps_if (pt_not (pt_truth (pv 6) (fun _ => rfl))) (pss_one ps_break)
  pss_nil)))))
  (pss_one (ps_expr (pe_bm PySem.F.plainAttrs_list PySem.F.slot_list_append PySem.F.type_list_append mt_append (pv 2) (pa_cons (pe_callTy call_tupleZ (by rfl) T.z_tuple bt_tuple (pa_cons (pv 4) pa_nil)) pa_nil)))))))
  (pss_one (ps_ret (pe_callTy call_tupleZ (by rfl) T.z_tuple bt_tuple (pa_cons (pe_callB (cr_sortedTS hu64) (by rfl) T.z_sorted bt_sorted (pa_cons (pv 2) pa_nil)) pa_nil)))))), body_of h fun ρ xs R hF => ?_⟩
    obtain ⟨names, L, M, rfl, hN, hM, k⟩ := hF
    have hz := hN.z
    have hin : ∀ x l, valA M x = some l → x ∈ names ∧ l ∈ names := fun x l e => ⟨(hN.inn _ _ (hM.edge x l e)).2, (hN.inn _ _ (hM.edge x l e)).1⟩
    with_reducible repeat (first | refine ws_seq ?_ | refine ws_asg ?_)
    refine we_lstM ?_
    with_reducible repeat (first | refine wa_nil ?_)
    refine ⟨by show 0 ≤ 100000; decide, fun rw_ hrw => ?_⟩
    with_reducible repeat (first | refine ws_seq ?_ | refine wg_name ?_)
    refine ws_for (wi_list (we_lcF (wi_tup ?_)))
    repeat (first | refine we_var rfl ?_)
    refine ⟨_, rfl, Str, names, D.str, D.str, fun n => !(valA M n).isSome, rfl, fun _ _ => trivial, by omega, fun n hn ρx sb => ?_, ?_⟩
    · refine wgv_name (by decide) ⟨rfl, wt_B (we_dnotin ?_)⟩
      repeat (first | refine we_var rfl ?_)
      refine ⟨_, strD_get, ?_⟩
      rw [isSome_map]
      refine ⟨_, rfl, rfl, rfl, fun _ => ?_⟩
      repeat (first | refine we_var rfl ?_)
      exact ⟨rfl, rfl⟩
    let st : List Str := names.filter fun n => !(valA M n).isSome
    have hst : ∀ x, x ∈ st → x ∈ names ∧ valA M x = none := fun x hx => by
      obtain ⟨h1, h2⟩ := List.mem_filter.mp hx
      refine ⟨h1, ?_⟩
      cases z : valA M x with
      | none => rfl
      | some v => rw [z] at h2; cases h2
    have hstl : st.length ≤ names.length := List.length_filter_le _ _
    refine ⟨_, lsd, fun i γ ρ' => ∃ (rs : List (List Str)) (v3 v4 v5 v6 : Option AB.A), γ = [some (.d (.tup (names.map D.str))), some (.d (strD M)), some (.m rw_), v3, v4, v5, v6, none] ∧ ρ' rw_ = some (.lst ((rs.map tupD).map .d)) ∧ AB.Sub ρ ρ' ∧ rs.map (fun r => r[0]?) = (st.take i).map some ∧ ∀ r, r ∈ rs → RowEnd M r, ?_, fun _ _ _ _ _ => lsd, ?_, ?_⟩
    · exact ⟨[], _, _, _, _, rfl, pu_same, (AB.Sub.refl ρ).new hrw, rfl, fun r hr => by simp at hr⟩
    · rintro i y γ ρ' ey ⟨rs, v3, v4, v5, v6, rfl, h1, h2, h3, h4⟩
      obtain ⟨b, eb, rfl⟩ := at_src ey
      obtain ⟨hbn, hb0⟩ := hst b (List.mem_of_getElem? eb)
      refine wg_name ?_
      with_reducible repeat (first | refine ws_seq ?_ | refine ws_asg ?_)
      refine we_lstM ?_
      repeat (first | refine we_var rfl ?_ | with_reducible refine wa_cons ?_ | with_reducible refine wa_nil ?_)
      refine ⟨by show 1 ≤ 100000; decide, fun ra hra => ?_⟩
      with_reducible repeat (first | refine ws_seq ?_ | refine wg_name ?_)
      have rar : ra ≠ rw_ := fun z => by rw [z, h1] at hra; cases hra
      have hra0 := none_of h2 hra
      refine WS.thn (P := fun γ ρ2 => ∃ (r : List Str) (v5 v6 : Option AB.A), γ = [some (.d (.tup (names.map D.str))), some (.d (strD M)), some (.m rw_), some (.d (.str b)), some (.m ra), v5, v6, none] ∧ ρ2 rw_ = some (.lst ((rs.map tupD).map .d)) ∧ ρ2 ra = some (.lst ((r.map D.str).map .d)) ∧ AB.Sub ρ ρ2 ∧ RowEnd M r ∧ r[0]? = some b ∧ r.length ≤ 90) ?_ ?_
      · refine ws_for (wi_rng1 ?_)
        repeat (first | refine we_var rfl ?_ | with_reducible refine wa_cons ?_ | with_reducible refine wa_nil ?_ | with_reducible refine we_cb ?_ | with_reducible refine on_lenT ?_)
        rw [List.length_map]
        refine ⟨_, rfl, by omega, ?_⟩
        rw [Int.toNat_natCast]
        refine ⟨fun lap γ ρ2 => ∃ (r : List Str) (x : Str) (v5 v6 : Option AB.A), γ = [some (.d (.tup (names.map D.str))), some (.d (strD M)), some (.m rw_), some (.d (.str b)), some (.m ra), v5, v6, none] ∧ ρ2 rw_ = some (.lst ((rs.map tupD).map .d)) ∧ ρ2 ra = some (.lst (((r ++ [x]).map D.str).map .d)) ∧ AB.Sub ρ ρ2 ∧ RowM M (r ++ [x]) ∧ (r ++ [x])[0]? = some b ∧ r.length = lap, ?_, fun _ _ _ _ _ => trivial, ?_, ?_⟩
        · exact ⟨[], b, _, _, rfl, by rw [pu_ne (Ne.symm rar)]; exact h1, pu_same, h2.new hra0, ⟨⟨b, rfl, hb0⟩, fun i x y e1 e2 => by simp at e2⟩, rfl, rfl⟩
        · rintro lap y γ ρ2 ey ⟨r, x, v5, v6, rfl, g1, g2, g3, g4, g5, g6⟩
          obtain ⟨hlap, rfl⟩ := rgA_at ey
          have hsub : ∀ z, z ∈ r ++ [x] → z ∈ names := fun z hz => by
            obtain ⟨j, hj, ej⟩ := List.mem_iff_getElem.mp hz
            have ej' : (r ++ [x])[j]? = some z := by rw [List.getElem?_eq_getElem hj, ej]
            cases j with
            | zero =>
              rw [g5] at ej'
              rw [← Option.some.inj ej']
              exact hbn
            | succ j => exact (hin z _ (g4.ch j _ z (List.getElem?_eq_getElem (by omega)) ej')).1
          have hrl : (r ++ [x]).length ≤ names.length := KN.nodup_len g4.nodup hsub
          rw [List.length_append, List.length_singleton] at hrl
          have hxn : x ≠ Str.ofString "" := hN.ne x (hsub x (by simp))
          let cc : Str → Bool := fun n => decide ((valA M n).getD (Str.ofString "") = x)
          have hcc : ∀ n, cc n = true ↔ valA M n = some x := fun n => by
            show decide ((valA M n).getD (Str.ofString "") = x) = true ↔ _
            rw [decide_eq_true_eq]
            cases z : valA M n with
            | none => exact ⟨fun h => absurd h.symm hxn, fun h => by cases h⟩
            | some v => exact ⟨fun h => by rw [show v = x from h], fun h => by rw [Option.some.inj h]; rfl⟩
          refine wg_name ?_
          with_reducible repeat (first | refine ws_seq ?_ | refine ws_asg ?_)
          refine we_lcF (wi_tup ?_)
          repeat (first | refine we_var rfl ?_)
          refine ⟨_, rfl, Str, names, D.str, D.str, cc, rfl, fun _ _ => trivial, by omega, fun n hn ρx sb => ?_, ?_⟩
          · refine wgv_name (by decide) ⟨rfl, wt_test (we_op (we_dget2 ?_))⟩
            repeat (first | refine we_var rfl ?_)
            refine ⟨.inr (.inl ⟨_, _, rfl⟩), ?_⟩
            repeat (first | refine we_var rfl ?_ | with_reducible refine we_str ?_)
            refine ⟨_, strD_get, ?_⟩
            rw [getD_strs]
            repeat (first | with_reducible refine we_op ?_ | refine we_var rfl ?_ | with_reducible refine wa_cons ?_ | with_reducible refine wa_nil ?_ | with_reducible refine we_cb ?_)
            refine on_len (lsm (sb _ _ g2)) ?_
            repeat (first | with_reducible refine we_int ?_ | refine o2_I0 (fun _ => Rep.int _) ?_)
            refine o2_ixL (lsm (sb _ _ g2)) (z := .d (.str x)) (by
              rw [src_len, List.length_append, List.length_singleton, show ((r.length + 1 : Nat) : Int) - 1 = ((r.length : Nat) : Int) by omega]
              exact atI_nat' (src_at (by simp))) ?_
            repeat (first | refine ⟨_, (rfl : AB.A.d (D.bl _) = _), ?_⟩ | with_reducible refine o2_eqS ?_)
            refine ⟨rfl, rfl, fun _ => ?_⟩
            repeat (first | refine we_var rfl ?_)
            exact ⟨rfl, rfl⟩
          with_reducible repeat (first | refine ws_seq ?_ | refine ws_drop ?_ | refine wg_name ?_)
          refine we_bm ?_
          repeat (first | refine we_var rfl ?_)
          refine ⟨ty_lst g2, ?_⟩
          repeat (first | refine we_var rfl ?_ | with_reducible refine wa_cons ?_ | with_reducible refine wa_nil ?_)
          have hfl := List.length_filter_le cc names
          refine on_extend g2 lsd (by rw [src_len, src_len, List.length_append, List.length_singleton]; omega) ?_
          by_cases hex : ∃ y, valA M y = some x
          · obtain ⟨y, ey⟩ := hex
            have hone : names.filter cc = [y] := filter_one hN.nd (hin y x ey).1 ((hcc y).mpr ey) fun z _ hz => hM.inj' ((hcc z).mp hz) ey
            rw [hone]
            repeat (first | with_reducible refine ws_if ?_ | refine we_var rfl ?_ | with_reducible refine wt_not ?_ | with_reducible refine wt_tru ?_)
            refine ⟨_, truL lsd, fun z => (by cases z), fun _ => ?_⟩
            with_reducible repeat (first | refine ws_next ?_)
            exact ⟨r ++ [x], y, _, _, rfl, by rw [pu_ne (Ne.symm rar)]; exact g1, by rw [pu_same]; simp only [List.map_append], g3.new hra0, g4.snoc ey, by rw [List.getElem?_append_left (by simp)]; exact g5, by rw [List.length_append, g6]; rfl⟩
          · have hnil : names.filter cc = [] := by
              rw [List.filter_eq_nil_iff]
              exact fun z _ hc => hex ⟨z, (hcc z).mp hc⟩
            rw [hnil]
            repeat (first | with_reducible refine ws_if ?_ | refine we_var rfl ?_ | with_reducible refine wt_not ?_ | with_reducible refine wt_tru ?_)
            refine ⟨_, truL lsd, fun _ => ?_, fun z => (by cases z)⟩
            with_reducible repeat (first | refine ws_break ?_)
            refine ⟨r ++ [x], _, _, rfl, by rw [pu_ne (Ne.symm rar)]; exact g1, by rw [pu_same]; simp, g3.new hra0, ⟨g4, fun a c ea e => ?_⟩, g5, by rw [List.length_append, List.length_singleton]; omega⟩
            rw [List.getLast?_append, List.getLast?_singleton] at ea
            cases ea
            exact hex ⟨c, e⟩
        · rintro γ ρ2 ⟨r, x, v5, v6, rfl, g1, g2, g3, g4, g5, g6⟩
          rw [rgA_len] at g6
          exfalso
          have hrl := KN.nodup_len g4.nodup (m := names) fun z hz => by
            obtain ⟨j, hj, ej⟩ := List.mem_iff_getElem.mp hz
            have ej' : (r ++ [x])[j]? = some z := by rw [List.getElem?_eq_getElem hj, ej]
            cases j with
            | zero =>
              rw [g5] at ej'
              rw [← Option.some.inj ej']
              exact hbn
            | succ j => exact (hin z _ (g4.ch j _ z (List.getElem?_eq_getElem (by omega)) ej')).1
          rw [List.length_append, List.length_singleton] at hrl
          omega
      · rintro γ ρ2 ⟨r, v5, v6, rfl, g1, g2, g3, g4, g5, g6⟩
        with_reducible repeat (first | refine ws_drop ?_)
        refine we_bm ?_
        repeat (first | refine we_var rfl ?_)
        refine ⟨ty_lst g1, ?_⟩
        repeat (first | refine we_var rfl ?_ | with_reducible refine wa_cons ?_ | with_reducible refine wa_nil ?_ | with_reducible refine we_cb ?_)
        refine on_tuple (lsm g2) ?_
        with_reducible repeat (first | refine wa_nil ?_)
        have hrl : rs.length ≤ names.length := by
          have := congrArg List.length h3
          rw [List.length_map, List.length_map, List.length_take] at this
          omega
        refine on_append g1 (by rw [src_len]; omega) ?_
        refine ⟨rs ++ [r], _, _, _, _, rfl, by rw [pu_same]; simp only [List.map_append, List.map_cons, List.map_nil], g3.new hrw, ?_, fun q hq => ?_⟩
        · rw [List.map_append, h3, List.take_succ, eb, List.map_append]
          show _ ++ [r[0]?] = _
          rw [g5]
          rfl
        · rcases List.mem_append.mp hq with z | z
          · exact h4 q z
          · rw [List.mem_singleton.mp z]
            exact g4
    · rintro γ ρ' ⟨rs, v3, v4, v5, v6, rfl, h1, h2, h3, h4⟩
      rw [src_len, List.take_length] at h3
      refine ws_ret ?_
      repeat (first | refine we_var rfl ?_ | with_reducible refine wa_cons ?_ | with_reducible refine wa_nil ?_ | with_reducible refine we_cb ?_)
      refine on_sortedTS (lsm h1) fun rs' hp hso => ?_
      with_reducible repeat (first | refine wa_nil ?_)
      exact on_tuple lsd ⟨ρ, h2, k rs rs' h3 h4 hp hso⟩
end
end K82
set_option Elab.async false
set_option linter.all false
set_option maxRecDepth 100000
set_option maxHeartbeats 4000000
namespace K82
open PySem PySem.Spec PyProof.Rows L2 Evl HB AB KX SrtO
section
variable {P : Program} {w : World} {K : PySem.W.Frag} {mg : Str → Option Value} {base : Heap}
theorem Reach.add2 {names : List Str} {S : Str → Str → Prop} {M : List (Str × Str)} {L0 : Str → Prop} {starts Lk Rk op : List Str} (h : Reach names S M L0 starts Lk Rk op) {r l : Str} (hr : r ∉ Rk) (hl : valA M r = some l) (hi : l ∈ Lk) : Reach names S M L0 starts Lk (Rk ++ [r]) op :=
  ⟨h.ndL, nd_snoc h.ndR hr, h.hL, fun q hq => by
    rcases List.mem_append.mp hq with z | z
    · exact h.hR q z
    · rw [List.mem_singleton.mp z]
      exact ⟨l, hl, hi⟩, h.st, fun l' hl' => (h.cl l' hl').imp id fun k q hq => List.mem_append_left _ (k q hq)⟩
theorem asc_pw {α : Type} {lt : α → α → Bool} (tr : ∀ {x y z}, lt x y = true → lt y z = true → lt x z = true) {l : List α} : ascL lt l = true ↔ l.Pairwise fun x y => lt x y = true := by
  constructor
  · intro h
    have h := ascL_iff.mp h
    have main : ∀ (d i : Nat) (x y : α), l[i]? = some x → l[i + 1 + d]? = some y → lt x y = true := by
      intro d
      induction d with
      | zero => exact fun i x y ex ey => h i x y ex ey
      | succ d ih =>
        intro i x y ex ey
        have hl := (List.getElem?_eq_some_iff.mp ey).1
        have ez : l[i + 1 + d]? = some l[i + 1 + d] := List.getElem?_eq_getElem (by omega)
        exact tr (ih i x _ ex ez) (h _ _ _ ez ey)
    refine List.pairwise_iff_getElem.mpr fun i j hi hj hij => ?_
    exact main (j - i - 1) i l[i] l[j] (List.getElem?_eq_getElem hi) (by rw [show i + 1 + (j - i - 1) = j by omega]; exact List.getElem?_eq_getElem hj)
  · intro h
    refine ascL_iff.mpr fun j x y ex ey => ?_
    obtain ⟨hi, e1⟩ := List.getElem?_eq_some_iff.mp ex
    obtain ⟨hj, e2⟩ := List.getElem?_eq_some_iff.mp ey
    have := (List.pairwise_iff_getElem.mp h) j (j + 1) hi hj (Nat.lt_succ_self _)
    rw [e1, e2] at this
    exact this
theorem asc_filter {l : List Str} (p : Str → Bool) (h : ascL ltStr l = true) : ascL ltStr (l.filter p) = true := (asc_pw (lt := ltStr) ltStr_trans).mpr (((asc_pw (lt := ltStr) ltStr_trans).mp h).filter p)
/-! ### _law_widest -/
abbrev s_law_widest : Stmt := topS 28
theorem sc_law_widest : FnScope ["names", "ahead", "taken", "used", "left", "right", "at", "other", "name"] ["names", "ahead", "taken"] (defScope s_law_widest) := ⟨rfl, rfl, rfl, by decide +kernel, rfl, by decide +kernel, by decide +kernel⟩
def FLWid (xs : List AB.A) (ρ : Sto) (R : QA) : Prop := ∃ names ah L M, xs = [.d (.tup (names.map D.str)), .m ah, .d (strD M)] ∧ ρ ah = some (.dT (pairK L)) ∧ AhIn names L ∧ ascL ltStr names = true ∧ Links (SL L) names M ∧
  ∀ zs, Anti names (SL L) zs → names.length ≤ zs.length + M.length → ascL ltStr zs = true → R (.d (tupD zs)) ρ
theorem ok_lwid {f : Addr} {fd : FuncData} (F : Fun K "_law_widest" "_law_widest" s_law_widest f fd) (T : Tz mg) : FnOk P w K mg base CX0 1 f fd ["names", "ahead", "taken"] (spA FLWid) := by
  refine F.ok sc_law_widest (spA_len fun xs ρ R h => ?_) (fun cdv Ar outer s H vs Q E hr h => ?_)
  · obtain ⟨_, _, _, _, rfl, _⟩ := h
    rfl
  · have hu : _ + 1 < cLine := hu_of hr
    refine ⟨_, (pss_cons (ps_set (i := 3) sc_law_widest.nd rfl (Or.inr rfl) (pe_lc (own := [("name", 8)]) rfl sc_law_widest.nd (pi_keys (pv 2)) (blkOk_by (N := ["names", "ahead", "taken", "used", "left", "right", "at", "other", "name"]) (sc := defScope s_law_widest) (by decide +kernel)) (fun _ _ _ _ _ => (pg_name (i := 8) sc_law_widest.nd rfl (Or.inl rfl))) (fun _ _ _ _ _ => pts_nil) (fun _ _ _ _ _ => (pe_dget hu (pv 2) (pv 8) (fun _ _ => rfl)))))
  (pss_cons (ps_set (i := 4) sc_law_widest.nd rfl (Or.inr rfl) (pe_lc (own := [("name", 8)]) rfl sc_law_widest.nd (pi_tup (pv 0)) (blkOk_by (N := ["names", "ahead", "taken", "used", "left", "right", "at", "other", "name"]) (sc := defScope s_law_widest) (by decide +kernel)) (fun _ _ _ _ _ => (pg_name (i := 8) sc_law_widest.nd rfl (Or.inl rfl))) (fun _ _ _ _ _ => (pts_one (pt_cmpR (opR_K (r := (fun K => rIn K true)) (K := K) rfl op_notIn_seq) (pv 8) (pv 3) (by with_unfolding_all rfl)))) (fun _ _ _ _ _ => (pv 8))))
  (pss_cons (ps_set (i := 5) sc_law_widest.nd rfl (Or.inr rfl) pe_dnewK)
  (pss_cons (ps_for PassesOwn.never rfl (pi_range1 (by rfl) T.z_range (pa_cons (pe_op op_add (pe_callB call_len_seq (by rfl) T.z_len bt_len (pa_cons (pv 0) pa_nil)) pe_int) pa_nil)) (pg_name (i := 6) sc_law_widest.nd rfl (Or.inr rfl))
  (pss_cons (ps_if (pt_cmpR op_ge (pv 6) (pe_callB call_len_seq (by rfl) T.z_len bt_len (pa_cons (pv 4) pa_nil)) (nomark _)) (pss_one ps_break)
  pss_nil)
  (pss_one (ps_for PassesOwn.never rfl (pi_list (pe_lc (own := [("name", 8)]) rfl sc_law_widest.nd (pi_tup (pv 0)) (blkOk_by (N := ["names", "ahead", "taken", "used", "left", "right", "at", "other", "name"]) (sc := defScope s_law_widest) (by decide +kernel)) (fun _ _ _ _ _ => (pg_name (i := 8) sc_law_widest.nd rfl (Or.inl rfl))) (fun _ _ _ _ _ => (pts_one (PW.pt (pw_and (pt_cmp (pc_din hu (pe_tup (pa_cons (pe_ix (ixR_K (r := rIxL) (K := K) rfl ix_list) (pv 4) (pv 6) (fun _ _ => rfl)) (pa_cons (pv 8) pa_nil))) (pv 1))) (pw_and1 (pt_cmp (pc_dnotin hu (pv 8) (pv 5)))))))) (fun _ _ _ _ _ => (pv 8)))) (pg_name (i := 7) sc_law_widest.nd rfl (Or.inl rfl))
  (pss_cons (ps_dput hu (pv 5) (pv 7) pe_bl rfl)
  (pss_one (ps_if (PW.pt (pw_and (pt_cmp (pc_din hu (pv 7) (pv 2))) (pw_and1 (pt_cmpR op_notIn_seq (pe_dget hu (pv 2) (pv 7) (fun _ _ => rfl)) (pv 4) (by with_unfolding_all rfl))))) (pss_one (ps_expr (pe_bm PySem.F.plainAttrs_list PySem.F.slot_list_append PySem.F.type_list_append mt_append (pv 4) (pa_cons (pe_dget hu (pv 2) (pv 7) (fun _ _ => rfl)) pa_nil))))
  pss_nil)))))))
  (pss_one (ps_ret (pe_callTy call_tupleZ (by rfl) T.z_tuple bt_tuple (pa_cons (pe_lc (own := [("name", 8)]) rfl sc_law_widest.nd (pi_tup (pv 0)) (blkOk_by (N := ["names", "ahead", "taken", "used", "left", "right", "at", "other", "name"]) (sc := defScope s_law_widest) (by decide +kernel)) (fun _ _ _ _ _ => (pg_name (i := 8) sc_law_widest.nd rfl (Or.inl rfl))) (fun _ _ _ _ _ => (pts_one (PW.pt (pw_and (pt_cmpR (opR_K (r := (fun K => rIn K false)) (K := K) rfl op_in_seq) (pv 8) (pv 4) (by with_unfolding_all rfl)) (pw_and1 (pt_cmp (pc_dnotin hu (pv 8) (pv 5)))))))) (fun _ _ _ _ _ => (pv 8))) pa_nil)))))))), body_of h fun ρ xs R hF => ?_⟩
    obtain ⟨names, ah, L, M, rfl, hah, hN, hasc, hL, k⟩ := hF
    have hz := hN.z
    have hin : ∀ a b, SL L a b → a ∈ names ∧ b ∈ names := hN.inn
    obtain ⟨L0, R0, hC, hA⟩ := hL.cl
    have hMl : M.length ≤ 90 := by
      have := KN.nodup_len hL.m.nd (m := names) fun x hx => by
        obtain ⟨z, hz, rfl⟩ := List.mem_map.mp hx
        exact (hin _ _ (hL.m.edge _ _ (valA_of hL.m.nd (x := z.1) (v := z.2) hz))).2
      rw [List.length_map] at this
      exact Nat.le_trans this hz
    with_reducible repeat (first | refine ws_seq ?_ | refine ws_asg ?_)
    refine we_lcF (wi_keys ?_)
    repeat (first | refine we_var rfl ?_)
    refine ⟨_, _, rfl, Str × Str, M, fun p => .str p.1, fun p => .str p.2, fun _ => true, by rw [List.map_map, List.map_map]; rfl, fun _ _ => trivial, by omega, fun n hn ρx sb => ?_, ?_⟩
    · refine wgv_name (by decide) ⟨rfl, wt_yes ⟨rfl, rfl, fun _ => ?_⟩⟩
      refine we_dget ?_
      repeat (first | refine we_var rfl ?_)
      refine ⟨.d (.str n.2), by have := strD_get (l := M) (x := n.1) (ρ := ρx); rw [valA_of hL.m.nd (x := n.1) (v := n.2) hn] at this; exact this, rfl, rfl⟩
    rw [nocut, show M.map (fun p => D.str p.2) = (M.map Prod.snd).map D.str by rw [List.map_map]; rfl]
    have hus : ∀ x, x ∈ M.map Prod.snd ↔ ∃ r, valA M r = some x := fun x => by
      rw [List.mem_map]
      exact ⟨fun ⟨p, hp, e⟩ => ⟨p.1, by rw [← e]; exact valA_of hL.m.nd hp⟩, fun ⟨r, e⟩ => ⟨_, valA_mem e, rfl⟩⟩
    with_reducible repeat (first | refine ws_seq ?_ | refine ws_asg ?_ | refine wg_name ?_)
    refine we_lcFM (wi_tup ?_)
    repeat (first | refine we_var rfl ?_)
    refine ⟨_, rfl, Str, names, D.str, D.str, fun n => !decide (n ∈ M.map Prod.snd), rfl, fun _ _ => trivial, by omega, fun n hn ρx sb => ?_, fun le hle => ?_⟩
    · refine wgv_name (by decide) ⟨rfl, wt_test (we_op ?_)⟩
      repeat (first | refine we_var rfl ?_)
      refine o2_inS (.inl lsd) ?_
      refine ⟨_, rfl, rfl, rfl, fun _ => ?_⟩
      repeat (first | refine we_var rfl ?_)
      exact ⟨rfl, rfl⟩
    let st : List Str := names.filter fun n => !decide (n ∈ M.map Prod.snd)
    have hst : ∀ x, x ∈ st ↔ x ∈ names ∧ ∀ r, valA M r ≠ some x := fun x => by
      show x ∈ names.filter _ ↔ _
      rw [List.mem_filter, Bool.not_eq_true', decide_eq_false_iff_not, hus]
      exact and_congr_right fun _ => ⟨fun h r e => h ⟨r, e⟩, fun h ⟨r, e⟩ => h r e⟩
    have ndst : st.Nodup := hN.nd.filter _
    have hL0 : ∀ x, x ∈ st → L0 x ∧ x ∈ names := fun x hx => by
      obtain ⟨h1, h2⟩ := (hst x).mp hx
      exact ⟨(hA x h1).resolve_left fun ⟨r, e⟩ => h2 r e, h1⟩
    with_reducible repeat (first | refine ws_seq ?_ | refine ws_asg ?_ | refine wg_name ?_)
    refine we_dictM fun ri hri => ?_
    with_reducible repeat (first | refine ws_seq ?_ | refine wg_name ?_)
    have ril : ri ≠ le := fun z => by rw [z, pu_same] at hri; cases hri
    have hri0 : ρ ri = none := none_of ((AB.Sub.refl ρ).new hle) hri
    have lea : le ≠ ah := fun z => by rw [z, hah] at hle; cases hle
    have ria : ri ≠ ah := fun z => by rw [z, hah] at hri0; cases hri0
    refine WS.thn (P := fun γ ρ' => ∃ (W Rk : List Str) (v6 v7 : Option AB.A), γ = [some (.d (.tup (names.map D.str))), some (.m ah), some (.d (strD M)), some (.d (.lst ((M.map Prod.snd).map D.str))), some (.m le), some (.m ri), v6, v7, none] ∧ ρ' le = some (.lst ((W.map D.str).map .d)) ∧ ρ' ri = some (.dK (setK Rk)) ∧ AB.Sub ρ ρ' ∧ Reach names (SL L) M L0 st W Rk []) ?_ ?_
    · refine ws_for (wi_rng1 ?_)
      repeat (first | with_reducible refine we_op ?_ | refine we_var rfl ?_ | with_reducible refine we_int ?_ | with_reducible refine wa_cons ?_ | with_reducible refine wa_nil ?_ | with_reducible refine we_cb ?_ | refine o2_I0 (fun _ => Rep.int _) ?_ | with_reducible refine on_lenT ?_)
      rw [List.length_map]
      refine ⟨_, rfl, by omega, ?_⟩
      rw [show ((names.length : Int) + 1).toNat = names.length + 1 by omega]
      refine ⟨fun p γ ρ' => ∃ (W Rk : List Str) (v6 v7 : Option AB.A), γ = [some (.d (.tup (names.map D.str))), some (.m ah), some (.d (strD M)), some (.d (.lst ((M.map Prod.snd).map D.str))), some (.m le), some (.m ri), v6, v7, none] ∧ ρ' le = some (.lst ((W.map D.str).map .d)) ∧ ρ' ri = some (.dK (setK Rk)) ∧ AB.Sub ρ ρ' ∧ Reach names (SL L) M L0 st W Rk (W.drop p), ?_, fun _ _ _ _ _ => trivial, ?_, ?_⟩
      · exact ⟨st, [], _, _, rfl, by rw [pu_ne (Ne.symm ril)]; exact pu_same, pu_same, ((AB.Sub.refl ρ).new hle).new hri0, Reach.start ndst hL0⟩
      · rintro p y γ ρ' ey ⟨W, Rk, v6, v7, rfl, h1, h2, h3, hR⟩
        obtain ⟨hp, rfl⟩ := rgA_at ey
        refine wg_name ?_
        repeat (first | with_reducible refine ws_seq ?_ | with_reducible refine ws_if ?_ | with_reducible refine we_op ?_ | refine we_var rfl ?_ | with_reducible refine wa_cons ?_ | with_reducible refine wa_nil ?_ | with_reducible refine we_cb ?_ | with_reducible refine wt_test ?_)
        refine on_len (lsm h1) ?_
        repeat (first | refine ⟨_, (rfl : AB.A.d (D.bl _) = _), ?_⟩ | refine o2_I0 (fun _ => Rep.bl _) ?_)
        rw [src_len]
        refine ⟨fun b1 => ?_, fun b1 => ?_⟩
        · with_reducible repeat (first | refine ws_break ?_)
          refine ⟨W, Rk, _, _, rfl, h1, h2, h3, ?_⟩
          rw [List.drop_of_length_le (by have := of_decide_eq_true b1; omega)] at hR
          exact hR
        have hpl : p < W.length := by
          have := of_decide_eq_false b1
          omega
        obtain ⟨l, el⟩ : ∃ l, W[p]? = some l := ⟨_, List.getElem?_eq_getElem hpl⟩
        have hlW := List.mem_of_getElem? el
        have hdrop : W.drop p = l :: W.drop (p + 1) := by
          obtain ⟨hi, e⟩ := List.getElem?_eq_some_iff.mp el
          rw [← e]
          exact (List.getElem_cons_drop hi).symm
        rw [hdrop] at hR
        obtain ⟨hl0, hln⟩ := hR.hL l hlW
        let cc : Str → Bool := fun n => decide ((l, n) ∈ L) && !decide (n ∈ Rk)
        let ots : List Str := names.filter cc
        have hots : ∀ x, x ∈ ots ↔ SL L l x ∧ x ∉ Rk := fun x => by
          show x ∈ names.filter cc ↔ _
          rw [List.mem_filter]
          show x ∈ names ∧ (decide ((l, x) ∈ L) && !decide (x ∈ Rk)) = true ↔ _
          rw [Bool.and_eq_true, decide_eq_true_eq, Bool.not_eq_true', decide_eq_false_iff_not]
          exact ⟨fun h => h.2, fun h => ⟨(hin _ _ h.1).2, h⟩⟩
        have ndo : ots.Nodup := hN.nd.filter _
        with_reducible repeat (first | refine ws_next ?_)
        refine ws_for (wi_list (we_lcF (wi_tup ?_)))
        repeat (first | refine we_var rfl ?_)
        refine ⟨_, rfl, Str, names, D.str, D.str, cc, rfl, fun _ _ => trivial, by omega, fun n hn ρx sb => ?_, ?_⟩
        · refine wgv_name (by decide) ⟨rfl, ?_⟩
          refine wt_and (wt_B (we_din (we_ptup ?_)))
          repeat (first | with_reducible refine we_op ?_ | refine we_var rfl ?_ | with_reducible refine wa_cons ?_)
          refine o2_ixL (lsm (sb _ _ h1)) (z := .d (.str l)) (by rw [Int.zero_add]; exact atI_nat' (src_at el)) ?_
          repeat (first | refine we_var rfl ?_ | with_reducible refine wa_cons ?_ | with_reducible refine wa_nil ?_)
          refine ⟨[.str l, .str n], rfl, (by show 2 ≤ 100000; decide), ?_⟩
          repeat (first | refine we_var rfl ?_)
          refine ⟨_, pair_get (sb _ _ (h3 _ _ hah)), ?_⟩
          rw [pair_has]
          refine ⟨_, rfl, fun b3 => ?_, fun b3 => ?_⟩
          · repeat (first | refine we_var rfl ?_ | with_reducible refine wt_B ?_ | with_reducible refine we_dnotin ?_)
            refine ⟨_, set_get (sb _ _ h2), ?_⟩
            rw [set_has]
            refine ⟨_, rfl, rfl, (by show _ = (decide _ && !decide _); rw [b3]; rfl), fun _ => ?_⟩
            repeat (first | refine we_var rfl ?_)
            exact ⟨rfl, rfl⟩
          · exact ⟨rfl, (by show _ = (decide _ && !decide _); rw [b3]; rfl), fun z => by
              have z' : (decide ((l, n) ∈ L) && !decide (n ∈ Rk)) = true := z
              rw [b3] at z'
              cases z'⟩
        refine ⟨_, lsd, fun k γ ρ3 => ∃ (W' : List Str) (v7 : Option AB.A), γ = [some (.d (.tup (names.map D.str))), some (.m ah), some (.d (strD M)), some (.d (.lst ((M.map Prod.snd).map D.str))), some (.m le), some (.m ri), some (.d (.int (0 + (p : Nat)))), v7, none] ∧ ρ3 le = some (.lst ((W'.map D.str).map .d)) ∧ ρ3 ri = some (.dK (setK (Rk ++ ots.take k))) ∧ AB.Sub ρ ρ3 ∧ W'[p]? = some l ∧ Reach names (SL L) M L0 st W' (Rk ++ ots.take k) (l :: W'.drop (p + 1)), ?_, fun _ _ _ _ _ => lsd, ?_, ?_⟩
        · exact ⟨W, _, rfl, h1, by rw [List.take_zero, List.append_nil]; exact h2, h3, el, by rw [List.take_zero, List.append_nil]; exact hR⟩
        · rintro k y γ ρ3 ey ⟨W', v7, rfl, g1, g2, g3, g4, g5⟩
          obtain ⟨o, eo, rfl⟩ := at_src ey
          have ho := (hots o).mp (List.mem_of_getElem? eo)
          have hok : o ∉ Rk ++ ots.take k := fun m => by
            rcases List.mem_append.mp m with z | z
            · exact ho.2 z
            · obtain ⟨j, hj, ej⟩ := List.mem_iff_getElem.mp z
              rw [List.length_take] at hj
              rw [List.getElem_take] at ej
              have := KN.nodup_at ndo (i := k) (j := j) eo (by rw [List.getElem?_eq_getElem (by omega), ej])
              omega
          have etake : Rk ++ ots.take (k + 1) = Rk ++ ots.take k ++ [o] := by rw [List.take_succ, eo, List.append_assoc]; rfl
          obtain ⟨l', el', hl'⟩ := hC.par o (hC.out l o hl0 ho.1)
          have hn' := (hin _ _ (hL.m.edge _ _ el')).1
          have hRn : (Rk ++ ots.take k).length ≤ names.length := KN.nodup_len g5.ndR fun z hz => by
            obtain ⟨l, e, _⟩ := g5.hR z hz
            exact (hin _ _ (hL.m.edge z l e)).2
          have hWn : W'.length ≤ names.length := KN.nodup_len g5.ndL fun z hz => (g5.hL z hz).2
          refine wg_name ?_
          with_reducible repeat (first | refine ws_seq ?_)
          refine ws_dput ?_
          repeat (first | refine we_var rfl ?_ | with_reducible refine we_bl ?_)
          refine ⟨_, set_put g2 (by omega), ?_⟩
          rw [ins_out hok]
          have g1' : (pu ρ3 ri (.dK (setK (Rk ++ ots.take k ++ [o])))) le = some (.lst ((W'.map D.str).map .d)) := by rw [pu_ne (Ne.symm ril)]; exact g1
          repeat (first | with_reducible refine ws_if ?_ | refine we_var rfl ?_ | with_reducible refine wt_B ?_ | with_reducible refine wt_and ?_ | with_reducible refine we_din ?_)
          refine ⟨_, strD_get, ?_⟩
          rw [el']
          refine ⟨_, rfl, fun _ => ?_, fun z => (by cases z)⟩
          refine wt_test (we_op (we_dget ?_))
          repeat (first | refine we_var rfl ?_)
          refine ⟨.d (.str l'), by have := strD_get (l := M) (x := o) (ρ := pu ρ3 ri (.dK (setK (Rk ++ ots.take k ++ [o])))); rw [el'] at this; exact this, ?_⟩
          repeat (first | refine we_var rfl ?_)
          refine o2_inS (.inl (lsm g1')) ?_
          refine ⟨_, rfl, fun b4 => ?_, fun b4 => ?_⟩
          · have hnl : l' ∉ W' := by simpa using b4
            with_reducible repeat (first | refine ws_drop ?_)
            refine we_bm ?_
            repeat (first | refine we_var rfl ?_)
            refine ⟨ty_lst g1', wa_cons (we_dget ?_)⟩
            repeat (first | refine we_var rfl ?_)
            refine ⟨.d (.str l'), by have := strD_get (l := M) (x := o) (ρ := pu ρ3 ri (.dK (setK (Rk ++ ots.take k ++ [o])))); rw [el'] at this; exact this, ?_⟩
            with_reducible repeat (first | refine wa_nil ?_)
            refine on_append g1' (by rw [src_len]; omega) ?_
            have hpW : p < W'.length := (List.getElem?_eq_some_iff.mp g4).1
            refine ⟨W' ++ [l'], _, rfl, by rw [pu_same]; simp only [List.map_append]; rfl, by rw [pu_ne ril, pu_same, etake], (g3.new hri0).new hle, by rw [List.getElem?_append_left hpW]; exact g4, ?_⟩
            rw [etake, ← ins_out hnl]
            refine g5.add hok el' hl' hn' (fun z hz => ?_) ?_
            · rw [ins_out hnl]
              rcases List.mem_cons.mp hz with a | a
              · rw [a]
                exact List.mem_cons_self
              · refine List.mem_cons_of_mem _ ?_
                rw [List.drop_append_of_le_length (by omega)]
                exact List.mem_append_left _ a
            · rw [ins_out hnl, List.drop_append_of_le_length (by omega)]
              exact List.mem_cons_of_mem _ (List.mem_append_right _ (by simp))
          · have hyl : l' ∈ W' := by simpa using b4
            with_reducible repeat (first | refine ws_next ?_)
            exact ⟨W', _, rfl, g1', by rw [pu_same, etake], g3.new hri0, g4, by rw [etake]; exact g5.add2 hok el' hyl⟩
        · rintro γ ρ3 ⟨W', v7, rfl, g1, g2, g3, g4, g5⟩
          rw [src_len, show (names.filter cc).length = ots.length from rfl, List.take_length] at g2 g5
          refine ⟨W', Rk ++ ots, _, _, rfl, g1, g2, g3, g5.shut fun z hz => ?_⟩
          rcases List.mem_cons.mp hz with a | a
          · refine .inr fun r hr => ?_
            rw [a] at hr
            by_cases q : r ∈ Rk
            · exact List.mem_append_left _ q
            · exact List.mem_append_right _ ((hots r).mpr ⟨hr, q⟩)
          · exact .inl a
      · rintro γ ρ' ⟨W, Rk, v6, v7, rfl, h1, h2, h3, hR⟩
        rw [rgA_len] at hR
        have hWn : W.length ≤ names.length := KN.nodup_len hR.ndL fun z hz => (hR.hL z hz).2
        rw [List.drop_of_length_le (by omega)] at hR
        exact ⟨W, Rk, _, _, rfl, h1, h2, h3, hR⟩
    · rintro γ ρ' ⟨W, Rk, v6, v7, rfl, h1, h2, h3, hR⟩
      obtain ⟨ha, hzl⟩ := hR.fin hN.nd hL.m hin fun x hx hn => (hst x).mpr ⟨hx, hn⟩
      let cc : Str → Bool := fun n => decide (n ∈ W) && !decide (n ∈ Rk)
      have hpm : (names.filter cc).Perm (W.filter fun x => !decide (x ∈ Rk)) := perm_of (hN.nd.filter _) (hR.ndL.filter _) fun x => by
        rw [List.mem_filter, List.mem_filter]
        show x ∈ names ∧ (decide (x ∈ W) && !decide (x ∈ Rk)) = true ↔ _
        rw [Bool.and_eq_true, decide_eq_true_eq]
        exact ⟨fun h => ⟨h.2.1, h.2.2⟩, fun h => ⟨(hR.hL x h.1).2, h.1, h.2⟩⟩
      refine ws_ret ?_
      with_reducible repeat (first | refine wa_cons ?_ | refine we_cb ?_)
      refine we_lcF (wi_tup ?_)
      repeat (first | refine we_var rfl ?_)
      refine ⟨_, rfl, Str, names, D.str, D.str, cc, rfl, fun _ _ => trivial, by omega, fun n hn ρx sb => ?_, ?_⟩
      · refine wgv_name (by decide) ⟨rfl, ?_⟩
        refine wt_and (wt_test (we_op ?_))
        repeat (first | refine we_var rfl ?_)
        refine o2_inS (.inl (lsm (sb _ _ h1))) ?_
        refine ⟨_, rfl, fun b3 => ?_, fun b3 => ?_⟩
        · repeat (first | refine we_var rfl ?_ | with_reducible refine wt_B ?_ | with_reducible refine we_dnotin ?_)
          refine ⟨_, set_get (sb _ _ h2), ?_⟩
          rw [set_has]
          refine ⟨_, rfl, rfl, ?_, fun _ => ?_⟩
          · have b3' : decide (n ∈ W) = true := b3
            show _ = (decide (n ∈ W) && !decide _)
            rw [b3']
            rfl
          repeat (first | refine we_var rfl ?_)
          exact ⟨rfl, rfl⟩
        · have b3' : decide (n ∈ W) = false := b3
          refine ⟨rfl, ?_, fun z => ?_⟩
          · show _ = (decide (n ∈ W) && !decide _)
            rw [b3']
            rfl
          · have z' : (decide (n ∈ W) && !decide (n ∈ Rk)) = true := z
            rw [b3'] at z'
            cases z'
      with_reducible repeat (first | refine wa_nil ?_)
      refine on_tuple lsd ⟨ρ, h3, k (names.filter cc) (ha.perm_ hpm) ?_ (asc_filter cc hasc)⟩
      rw [hpm.length_eq]
      exact hzl
end
end K82
set_option Elab.async false
set_option linter.all false
set_option maxRecDepth 100000
set_option maxHeartbeats 4000000
namespace K82
open PySem PySem.Spec PyProof.Rows L2 Evl HB AB KX SrtO
section
variable {P : Program} {w : World} {K : PySem.W.Frag} {mg : Str → Option Value} {base : Heap}
/-! ### _law_open -/
abbrev s_law_open : Stmt := topS 29
theorem sc_law_open : FnScope ["names", "ahead", "thing", "at", "name"] ["names", "ahead", "thing"] (defScope s_law_open) := ⟨rfl, rfl, rfl, by decide +kernel, rfl, by decide +kernel, by decide +kernel⟩
def FLOpen (xs : List AB.A) (ρ : Sto) (R : QA) : Prop := ∃ names ah L t, xs = [.d (.tup (names.map D.str)), .m ah, .d t] ∧ ρ ah = some (.dT (pairK L)) ∧ AhIn names L ∧ Th1 t ∧ ∀ b : Bool, (b = true ↔ OpenD names (SL L) t) → R (.d (.bl b)) ρ
/-- a value that is a text of names -/
def strIn (names : List Str) : D → Bool
  | .str z => decide (z ∈ names)
  | _ => false
theorem strIn_iff {names : List Str} {d : D} : strIn names d = true ↔ ∃ z, d = .str z ∧ z ∈ names := by
  cases d <;> simp [strIn]
theorem strs_in {names : List Str} : ∀ {l : List D}, (∀ x ∈ l, strIn names x = true) → ∃ zs : List Str, l = zs.map D.str ∧ ∀ z, z ∈ zs → z ∈ names
  | [], _ => ⟨[], rfl, fun z h => by simp at h⟩
  | d :: l, h => by
    obtain ⟨zs, rfl, hz⟩ := strs_in (l := l) fun x hx => h x (List.mem_cons_of_mem _ hx)
    obtain ⟨z, rfl, hm⟩ := strIn_iff.mp (h d List.mem_cons_self)
    refine ⟨z :: zs, rfl, fun y hy => ?_⟩
    rcases List.mem_cons.mp hy with e | e
    · rw [e]
      exact hm
    · exact hz y e
theorem ok_lopen {f : Addr} {fd : FuncData} (F : Fun K "_law_open" "_law_open" s_law_open f fd) (T : Tz mg) : FnOk P w K mg base CX0 1 f fd ["names", "ahead", "thing"] (spA FLOpen) := by
  refine F.ok sc_law_open (spA_len fun xs ρ R h => ?_) (fun cdv Ar outer s H vs Q E hr h => ?_)
  · obtain ⟨_, _, _, _, rfl, _⟩ := h
    rfl
  · have hu : _ + 1 < cLine := hu_of hr
    have hu1 : _ < cLine := hr.units0
    refine ⟨_, (pss_cons (ps_if (PW.pt (pw_or (pt_not (pt_val (pe_callB call_isA (by rfl) T.z_isinstance bt_isinstance (pa_cons (pv 2) (pa_cons (pe_bltn (by rfl) T.z_tuple (v := .ty "tuple") bt_tuple rfl) pa_nil))))) (pw_or1 (pt_val (pe_callB (cr_any rfl) (by rfl) T.z_any bt_any (pa_cons (pe_lc (own := [("name", 4)]) rfl sc_law_open.nd (pi_tup (pv 2)) (blkOk_by (N := ["names", "ahead", "thing", "at", "name"]) (sc := defScope s_law_open) (by decide +kernel)) (fun _ _ _ _ _ => (pg_name (i := 4) sc_law_open.nd rfl (Or.inl rfl))) (fun _ _ _ _ _ => pts_nil) (fun _ _ _ _ _ => (pe_or (pe_not (pe_callB call_isA (by rfl) T.z_isinstance bt_isinstance (pa_cons (pv 4) (pa_cons (pe_bltn (by rfl) T.z_str (v := .ty "str") bt_str rfl) pa_nil)))) (pe_one (pe_cmpR (opR_K (r := (fun K => rIn K true)) (K := K) rfl op_notIn_seq) (pv 4) (pv 0) (by with_unfolding_all rfl)))))) pa_nil)))))) (pss_one (ps_ret pe_bl))
  pss_nil)
  (pss_cons (ps_for PassesOwn.never rfl (pi_range1 (by rfl) T.z_range (pa_cons (pe_callB call_len_seq (by rfl) T.z_len bt_len (pa_cons (pv 2) pa_nil)) pa_nil)) (pg_name (i := 3) sc_law_open.nd rfl (Or.inr rfl))
  (pss_cons (ps_if (PW.pt (pw_and (pt_cmpR op_gt (pv 3) pe_int (nomark _)) (pw_and1 (pt_not (pt_cmpR (op_ltST hu1) (pe_ix ix_tup (pv 2) (pe_op op_sub (pv 3) pe_int) (fun _ _ => rfl)) (pe_ix ix_tup (pv 2) (pv 3) (fun _ _ => rfl)) (nomark _)))))) (pss_one (ps_ret pe_bl))
  pss_nil)
  (pss_one (ps_if (pt_val (pe_callB (cr_any rfl) (by rfl) T.z_any bt_any (pa_cons (pe_lc (own := [("name", 4)]) rfl sc_law_open.nd (pi_tup (pv 2)) (blkOk_by (N := ["names", "ahead", "thing", "at", "name"]) (sc := defScope s_law_open) (by decide +kernel)) (fun _ _ _ _ _ => (pg_name (i := 4) sc_law_open.nd rfl (Or.inl rfl))) (fun _ _ _ _ _ => pts_nil) (fun _ _ _ _ _ => (pe_or (pe_cmp (pc_din hu (pe_tup (pa_cons (pv 4) (pa_cons (pe_ix (ixR_K (r := rIxT) (K := K) rfl ix_tup) (pv 2) (pv 3) (fun _ _ => rfl)) pa_nil))) (pv 1))) (pe_one (pe_cmp (pc_din hu (pe_tup (pa_cons (pe_ix (ixR_K (r := rIxT) (K := K) rfl ix_tup) (pv 2) (pv 3) (fun _ _ => rfl)) (pa_cons (pv 4) pa_nil))) (pv 1))))))) pa_nil))) (pss_one (ps_ret pe_bl))
  pss_nil))))
  (pss_one (ps_ret pe_bl)))), body_of h fun ρ xs R hF => ?_⟩
    obtain ⟨names, ah, L, t, rfl, hah, hN, hth, k⟩ := hF
    have no : ¬ OpenD names (SL L) t → R (.d (.bl false)) ρ := fun h => k false ⟨fun z => (by cases z), fun z => (h z).elim⟩
    repeat (first | with_reducible refine ws_seq ?_ | with_reducible refine ws_if ?_ | refine we_var rfl ?_ | with_reducible refine wa_cons ?_ | with_reducible refine wa_nil ?_ | with_reducible refine we_cb ?_ | with_reducible refine wt_B ?_ | with_reducible refine wt_not ?_ | with_reducible refine wt_or ?_ | with_reducible refine we_ty ?_)
    refine on_is hth.p (kb_tup t hth.p) ?_
    repeat (first | refine ⟨_, (rfl : AB.A.d (D.bl _) = _), ?_⟩)
    refine ⟨fun c => ?_, fun c => ?_⟩
    · skip
      refine ⟨fun _ => ?_, fun c => (by cases c)⟩
      with_reducible repeat (first | refine ws_ret ?_ | refine we_bl ?_)
      refine ⟨_, AB.Sub.refl _, no fun ⟨r, e, _⟩ => ?_⟩
      rw [e] at c
      cases c
    · obtain ⟨l, rfl⟩ := isTup_iff.mp (by simpa using c)
      obtain ⟨hll, hpl⟩ := hth.l l rfl
      with_reducible repeat (first | refine wa_cons ?_ | refine we_cb ?_ | refine wt_B ?_)
      refine we_lcF (wi_tup ?_)
      repeat (first | refine we_var rfl ?_)
      refine ⟨l, rfl, D, l, id, fun d => .bl (!strIn names d), fun _ => true, by rw [List.map_id], fun _ _ => trivial, by omega, fun n hn ρx sb => ?_, ?_⟩
      · refine wgv_name (by decide) ⟨rfl, wt_yes ⟨rfl, rfl, fun _ => ?_⟩⟩
        repeat (first | refine we_var rfl ?_ | with_reducible refine wa_cons ?_ | with_reducible refine wa_nil ?_ | with_reducible refine we_cb ?_ | with_reducible refine we_ty ?_ | with_reducible refine we_orV ?_ | with_reducible refine we_notV ?_)
        refine on_is (hpl n hn) (kb_str n (hpl n hn)) ?_
        repeat (first | refine ⟨_, (rfl : AB.A.d (D.bl _) = _), ?_⟩)
        refine ⟨fun c3 => ?_, fun c3 => ?_⟩
        · refine ⟨rfl, ?_⟩
          cases n <;> first | rfl | cases c3
        · obtain ⟨z, rfl⟩ := isStr_iff.mp (by simpa using c3)
          repeat (first | with_reducible refine we_op ?_ | refine we_var rfl ?_)
          refine o2_inS (.inr rfl) ?_
          exact ⟨rfl, rfl⟩
      · rw [nocut]
        with_reducible repeat (first | refine wa_nil ?_)
        refine on_any (bs := l.map fun d => !strIn names d) (by rw [show l.map (fun d => D.bl (!strIn names d)) = (l.map fun d => !strIn names d).map D.bl by rw [List.map_map]; rfl]; exact lsd) ?_
        repeat (first | refine ⟨_, (rfl : AB.A.d (D.bl _) = _), ?_⟩)
        refine ⟨fun c2 => ?_, fun c2 => ?_⟩
        · with_reducible repeat (first | refine ws_ret ?_ | refine we_bl ?_)
          refine ⟨_, AB.Sub.refl _, no fun ⟨zs, e, ha, _⟩ => ?_⟩
          have e' := D.tup.inj e
          subst e'
          obtain ⟨b, hb, hb2⟩ := List.any_eq_true.mp c2
          obtain ⟨d, hd, rfl⟩ := List.mem_map.mp hb
          obtain ⟨z, hz, rfl⟩ := List.mem_map.mp hd
          have : strIn names (.str z) = true := strIn_iff.mpr ⟨z, rfl, ha.sub z hz⟩
          rw [this] at hb2
          cases hb2
        · have hall : ∀ x ∈ l, strIn names x = true := fun x hx => by
            cases q : strIn names x with
            | true => rfl
            | false =>
              have : (l.map fun d => !strIn names d).any id = true := List.any_eq_true.mpr ⟨_, List.mem_map.mpr ⟨x, hx, rfl⟩, by rw [q]; rfl⟩
              rw [this] at c2
              cases c2
          obtain ⟨zs, rfl, hzn⟩ := strs_in hall
          rw [List.length_map] at hll
          with_reducible repeat (first | refine ws_seq ?_ | refine ws_next ?_)
          refine ws_for (wi_rng1 ?_)
          repeat (first | refine we_var rfl ?_ | with_reducible refine wa_cons ?_ | with_reducible refine wa_nil ?_ | with_reducible refine we_cb ?_ | with_reducible refine on_lenT ?_)
          rw [List.length_map]
          refine ⟨_, rfl, by omega, ?_⟩
          rw [Int.toNat_natCast]
          refine ⟨fun i γ ρ' => ρ' = ρ ∧ (∃ v3, γ = [some (.d (.tup (names.map D.str))), some (.m ah), some (.d (.tup (zs.map D.str))), v3, none]) ∧ (∀ (j : Nat) (x y : Str), j + 1 < i → zs[j]? = some x → zs[j + 1]? = some y → ltStr x y = true) ∧ ∀ (j : Nat) (x y : Str), j < i → zs[j]? = some x → y ∈ zs → ¬ SL L y x ∧ ¬ SL L x y, ?_, fun _ _ _ _ _ => trivial, ?_, ?_⟩
          · exact ⟨rfl, ⟨_, rfl⟩, fun j x y h => absurd h (by omega), fun j x y h => absurd h (by omega)⟩
          · rintro i y γ ρ' ey ⟨rfl, ⟨v3, rfl⟩, hi1, hi2⟩
            obtain ⟨hi, rfl⟩ := rgA_at ey
            have ex : zs[i]? = some zs[i] := List.getElem?_eq_getElem hi
            have hxz : zs[i] ∈ zs := List.getElem_mem hi
            refine wg_name ?_
            refine ws_seq (WS.thn (P := fun γ2 ρ2 => ρ2 = ρ' ∧ γ2 = [some (.d (.tup (names.map D.str))), some (.m ah), some (.d (.tup (zs.map D.str))), some (.d (.int (0 + (i : Nat)))), none] ∧ ∀ (j : Nat) (x y : Str), j + 1 < i + 1 → zs[j]? = some x → zs[j + 1]? = some y → ltStr x y = true) ?_ ?_)
            · repeat (first | with_reducible refine ws_if ?_ | with_reducible refine we_op ?_ | refine we_var rfl ?_ | with_reducible refine we_int ?_ | with_reducible refine wt_test ?_ | with_reducible refine wt_and ?_ | refine ⟨_, (rfl : AB.A.d (D.bl _) = _), ?_⟩ | refine o2_I0 (fun _ => Rep.bl _) ?_)
              refine ⟨fun c4 => ?_, fun c4 => ?_⟩
              · have hi0 : 0 < i := by have := of_decide_eq_true c4; omega
                have hip : i - 1 < zs.length := by omega
                have ep : zs[i - 1]? = some (zs[i - 1]'hip) := List.getElem?_eq_getElem hip
                repeat (first | with_reducible refine we_op ?_ | refine we_var rfl ?_ | with_reducible refine we_int ?_ | with_reducible refine wt_test ?_ | with_reducible refine wt_not ?_ | refine o2_I0 (fun _ => Rep.int _) ?_)
                refine o2_ixT (z := .str (zs[i - 1]'hip)) (by rw [show (0 : Int) + ((i : Nat) : Int) - 1 = ((i - 1 : Nat) : Int) by omega]; exact atI_nat' (by rw [List.getElem?_map, ep]; rfl)) ?_
                repeat (first | with_reducible refine we_op ?_ | refine we_var rfl ?_)
                refine o2_ixT (z := .str zs[i]) (by rw [Int.zero_add]; exact atI_nat' (by rw [List.getElem?_map, ex]; rfl)) ?_
                refine o2_ltS ?_
                refine ⟨_, rfl, ?_⟩
                refine ⟨fun c5 => ?_, fun c5 => ?_⟩
                · with_reducible repeat (first | refine ws_ret ?_ | refine we_bl ?_)
                  refine ⟨_, AB.Sub.refl _, no fun ⟨zs', e, _, ha⟩ => ?_⟩
                  have := tupD_inj e
                  subst this
                  have := ascL_iff.mp ha (i - 1) _ _ ep (by rw [show i - 1 + 1 = i by omega]; exact ex)
                  have h5 : (!ltStr (zs[i - 1]'hip) zs[i]) = true := c5
                  rw [this] at h5
                  cases h5
                · with_reducible repeat (first | refine ws_next ?_)
                  refine ⟨rfl, rfl, fun j x y hj e1 e2 => ?_⟩
                  rcases Nat.lt_or_ge (j + 1) i with q | q
                  · exact hi1 j x y q e1 e2
                  · have : j = i - 1 := by omega
                    subst this
                    rw [ep] at e1
                    rw [show i - 1 + 1 = i by omega, ex] at e2
                    cases e1
                    cases e2
                    have h5 : (!ltStr (zs[i - 1]'hip) zs[i]) = false := c5
                    simpa using h5
              · skip
                refine ⟨fun z => (by cases z), fun _ => ?_⟩
                with_reducible repeat (first | refine ws_next ?_)
                refine ⟨rfl, rfl, fun j x y hj e1 e2 => ?_⟩
                have := of_decide_eq_false c4
                exact hi1 j x y (by omega) e1 e2
            · rintro γ2 ρ2 ⟨rfl, rfl, hi1'⟩
              let pp : Str → Bool := fun z => decide ((z, zs[i]) ∈ L) || decide ((zs[i], z) ∈ L)
              with_reducible repeat (first | refine ws_if ?_ | refine wa_cons ?_ | refine we_cb ?_ | refine wt_B ?_)
              refine we_lcF (wi_tup ?_)
              repeat (first | refine we_var rfl ?_)
              refine ⟨_, rfl, Str, zs, D.str, fun z => .bl (pp z), fun _ => true, rfl, fun _ _ => trivial, by omega, fun n hn ρx sb => ?_, ?_⟩
              · refine wgv_name (by decide) ⟨rfl, wt_yes ⟨rfl, rfl, fun _ => ?_⟩⟩
                refine we_orV (we_din (we_ptup ?_))
                repeat (first | with_reducible refine we_op ?_ | refine we_var rfl ?_ | with_reducible refine wa_cons ?_)
                refine o2_ixT (z := .str zs[i]) (by rw [Int.zero_add]; exact atI_nat' (by rw [List.getElem?_map, ex]; rfl)) ?_
                with_reducible repeat (first | refine wa_nil ?_)
                refine ⟨[.str n, .str zs[i]], rfl, (by show 2 ≤ 100000; decide), ?_⟩
                repeat (first | refine we_var rfl ?_)
                refine ⟨_, pair_get (sb _ _ hah), ?_⟩
                rw [pair_has]
                refine ⟨_, rfl, fun b3 => ?_, fun b3 => ?_⟩
                · exact ⟨rfl, by show _ = AB.A.d (D.bl (decide _ || decide _)); rw [b3]; rfl⟩
                · refine we_din (we_ptup ?_)
                  repeat (first | with_reducible refine we_op ?_ | refine we_var rfl ?_ | with_reducible refine wa_cons ?_)
                  refine o2_ixT (z := .str zs[i]) (by rw [Int.zero_add]; exact atI_nat' (by rw [List.getElem?_map, ex]; rfl)) ?_
                  repeat (first | refine we_var rfl ?_ | with_reducible refine wa_cons ?_ | with_reducible refine wa_nil ?_)
                  refine ⟨[.str zs[i], .str n], rfl, (by show 2 ≤ 100000; decide), ?_⟩
                  repeat (first | refine we_var rfl ?_)
                  refine ⟨_, pair_get (sb _ _ hah), ?_⟩
                  rw [pair_has]
                  exact ⟨rfl, by show _ = AB.A.d (D.bl (decide _ || decide _)); rw [b3]; rfl⟩
              · rw [nocut]
                with_reducible repeat (first | refine wa_nil ?_)
                refine on_any (bs := zs.map pp) (by rw [show zs.map (fun z => D.bl (pp z)) = (zs.map pp).map D.bl by rw [List.map_map]; rfl]; exact lsd) ?_
                have hpp : ∀ z, pp z = true ↔ SL L z zs[i] ∨ SL L zs[i] z := fun z => by
                  show (decide _ || decide _) = true ↔ _
                  rw [Bool.or_eq_true, decide_eq_true_eq, decide_eq_true_eq]
                refine ⟨_, rfl, fun b3 => ?_, fun b3 => ?_⟩
                · with_reducible repeat (first | refine ws_ret ?_ | refine we_bl ?_)
                  refine ⟨_, AB.Sub.refl _, no fun ⟨zs', e, ha, _⟩ => ?_⟩
                  have := tupD_inj e
                  subst this
                  obtain ⟨c, hc, hc2⟩ := List.any_eq_true.mp b3
                  obtain ⟨z, hz, rfl⟩ := List.mem_map.mp hc
                  rcases (hpp z).mp hc2 with q | q
                  · exact ha.no z _ hz hxz q
                  · exact ha.no _ z hxz hz q
                · with_reducible repeat (first | refine ws_next ?_)
                  refine ⟨rfl, ⟨_, rfl⟩, hi1', fun j x y hj e1 hy => ?_⟩
                  rcases Nat.lt_or_ge j i with q | q
                  · exact hi2 j x y q e1 hy
                  · have : j = i := by omega
                    subst this
                    rw [ex] at e1
                    cases e1
                    have hn : pp y = false := by
                      cases q2 : pp y with
                      | false => rfl
                      | true =>
                        have : (zs.map pp).any id = true := List.any_eq_true.mpr ⟨_, List.mem_map.mpr ⟨y, hy, rfl⟩, q2⟩
                        rw [this] at b3
                        cases b3
                    exact ⟨fun s => absurd ((hpp y).mpr (.inl s)) (by rw [hn]; simp), fun s => absurd ((hpp y).mpr (.inr s)) (by rw [hn]; simp)⟩
          · rintro γ ρ' ⟨rfl, ⟨v3, rfl⟩, hi1, hi2⟩
            rw [rgA_len] at hi1 hi2
            with_reducible repeat (first | refine ws_ret ?_ | refine we_bl ?_)
            have hasc : ascL ltStr zs = true := ascL_iff.mpr fun j x y e1 e2 => hi1 j x y (List.getElem?_eq_some_iff.mp e2).1 e1 e2
            refine ⟨_, AB.Sub.refl _, k true ⟨fun _ => ⟨zs, rfl, ⟨asc_nd (lt := ltStr) ltStr_trans ltStr_ir hasc, hzn, fun a b ha hb => ?_⟩, hasc⟩, fun _ => rfl⟩⟩
            obtain ⟨j, hj, ej⟩ := List.mem_iff_getElem.mp ha
            exact (hi2 j a b hj (by rw [List.getElem?_eq_getElem hj, ej]) hb).2
end
end K82
set_option Elab.async false
set_option linter.all false
set_option maxRecDepth 100000
set_option maxHeartbeats 4000000
namespace K82
open PySem PySem.Spec PyProof.Rows L2 Evl HB AB KX SrtO
section
variable {P : Program} {w : World} {K : PySem.W.Frag} {mg : Str → Option Value} {base : Heap}
/-- one row more of a covering -/
structure RowStep (names : List Str) (S : Str → Str → Prop) (rs : List (List Str)) (r : List Str) : Prop where
  ne : r ≠ []
  inn : ∀ x, x ∈ r → x ∈ names
  new : ∀ x, x ∈ r → x ∉ rs.flatten
  nd : r.Nodup
  ch : ∀ (i : Nat) (x y : Str), r[i]? = some x → r[i + 1]? = some y → S x y
  up : ∀ q, rs[rs.length - 1]? = some q → ltS q r = true
theorem cov_step {names : List Str} {S : Str → Str → Prop} {rs : List (List Str)} (hn : names.Nodup) (h : Cover names S rs) (ha : ascL ltS rs = true) {i : Nat} {r : List Str} (e : rs[i]? = some r) : RowStep names S (rs.take i) r := by
  have hr := List.mem_of_getElem? e
  have hnd : rs.flatten.Nodup := h.perm.nodup_iff.mpr hn
  obtain ⟨hi, ei⟩ := List.getElem?_eq_some_iff.mp e
  have hsplit : rs = rs.take i ++ r :: rs.drop (i + 1) := by
    rw [← ei, List.getElem_cons_drop hi, List.take_append_drop]
  rw [hsplit, List.flatten_append, List.flatten_cons, List.nodup_append] at hnd
  obtain ⟨_, h2, h3⟩ := hnd
  rw [List.nodup_append] at h2
  refine ⟨h.ne r hr, fun x hx => h.perm.mem_iff.mp (List.mem_flatten.mpr ⟨r, hr, hx⟩), fun x hx hm => h3 x hm x (List.mem_append_left _ hx) rfl, h2.1, h.ch r hr, fun q hq => ?_⟩
  have hl : (rs.take i).length = i := by rw [List.length_take]; omega
  rw [hl] at hq
  have h4 := (List.getElem?_eq_some_iff.mp hq).1
  rw [hl] at h4
  rw [List.getElem?_take, if_pos h4] at hq
  exact ascL_iff.mp ha (i - 1) q r hq (by rw [show i - 1 + 1 = i by omega]; exact e)
/-- rows so far -/
structure RowsUp (names : List Str) (S : Str → Str → Prop) (rs : List (List Str)) : Prop where
  ne : ∀ r, r ∈ rs → r ≠ []
  inn : ∀ x, x ∈ rs.flatten → x ∈ names
  nd : rs.flatten.Nodup
  ch : ∀ r, r ∈ rs → ∀ (i : Nat) (x y : Str), r[i]? = some x → r[i + 1]? = some y → S x y
  up : ascL ltS rs = true
theorem RowsUp.add {names : List Str} {S : Str → Str → Prop} {rs : List (List Str)} {r : List Str} (h : RowsUp names S rs) (k : RowStep names S rs r) : RowsUp names S (rs ++ [r]) := by
  refine ⟨fun q hq => ?_, fun x hx => ?_, ?_, fun q hq => ?_, ?_⟩
  · rcases List.mem_append.mp hq with z | z
    · exact h.ne q z
    · rw [List.mem_singleton.mp z]
      exact k.ne
  · rw [List.flatten_append, List.mem_append] at hx
    rcases hx with z | z
    · exact h.inn x z
    · exact k.inn x (by simpa using z)
  · rw [List.flatten_append, List.nodup_append]
    refine ⟨h.nd, by simpa using k.nd, fun a ha b hb e => ?_⟩
    rw [e] at ha
    exact k.new b (by simpa using hb) ha
  · rcases List.mem_append.mp hq with z | z
    · exact h.ch q z
    · rw [List.mem_singleton.mp z]
      exact k.ch
  · refine ascL_iff.mpr fun j x y e1 e2 => ?_
    have h2 := (List.getElem?_eq_some_iff.mp e2).1
    rw [List.length_append, List.length_singleton] at h2
    rw [List.getElem?_append_left (by omega)] at e1
    rcases Nat.lt_or_ge (j + 1) rs.length with q | q
    · rw [List.getElem?_append_left q] at e2
      exact ascL_iff.mp h.up j x y e1 e2
    · have : j + 1 = rs.length := by omega
      rw [List.getElem?_append_right q, this, Nat.sub_self] at e2
      cases Option.some.inj e2
      exact k.up x (by rw [show rs.length - 1 = j by omega]; exact e1)
theorem count_strs (z : Str) : ∀ l : List Str, ((l.map D.str).countP fun d => eqD d (.str z)) = l.count z
  | [] => rfl
  | y :: l => by
    rw [List.map_cons, List.countP_cons, count_strs z l, List.count_cons]
    rfl
theorem nodup_count {l : List Str} : l.Nodup ↔ ∀ x, x ∈ l → ¬ 1 < l.count x := by
  rw [List.nodup_iff_count]
  constructor
  · intro h x _
    have := h x
    omega
  · intro h x
    by_cases c : x ∈ l
    · have := h x c
      omega
    · rw [List.count_eq_zero.mpr c]
      exact Nat.zero_le _
theorem strs_all {l : List D} (h : ∀ x ∈ l, isStr x = true) : ∃ zs : List Str, l = zs.map D.str := by
  obtain ⟨zs, e⟩ := strsOf_of h
  exact ⟨zs, strsOf_map e⟩
/-! ### _law_covering -/
abbrev s_law_covering : Stmt := topS 30
theorem sc_law_covering : FnScope ["names", "ahead", "thing", "told", "at", "row", "name", "place"] ["names", "ahead", "thing"] (defScope s_law_covering) := ⟨rfl, rfl, rfl, by decide +kernel, rfl, by decide +kernel, by decide +kernel⟩
def FLCov (xs : List AB.A) (ρ : Sto) (R : QA) : Prop := ∃ names ah L t, xs = [.d (.tup (names.map D.str)), .m ah, .d t] ∧ ρ ah = some (.dT (pairK L)) ∧ AhIn names L ∧ Th2 t ∧ ∀ b : Bool, (b = true ↔ CovD names (SL L) t) → R (.d (.bl b)) ρ
theorem ok_lcov {f : Addr} {fd : FuncData} (F : Fun K "_law_covering" "_law_covering" s_law_covering f fd) (T : Tz mg) : FnOk P w K mg base CX0 1 f fd ["names", "ahead", "thing"] (spA FLCov) := by
  refine F.ok sc_law_covering (spA_len fun xs ρ R h => ?_) (fun cdv Ar outer s H vs Q E hr h => ?_)
  · obtain ⟨_, _, _, _, rfl, _⟩ := h
    rfl
  · have hu : _ + 1 < cLine := hu_of hr
    have hu1 : _ < cLine := hr.units0
    refine ⟨_, (pss_cons (ps_if (pt_not (pt_val (pe_callB call_isA (by rfl) T.z_isinstance bt_isinstance (pa_cons (pv 2) (pa_cons (pe_bltn (by rfl) T.z_tuple (v := .ty "tuple") bt_tuple rfl) pa_nil))))) (pss_one (ps_ret pe_bl))
  pss_nil)
  (pss_cons (ps_set (i := 3) sc_law_covering.nd rfl (Or.inr rfl) (pe_lst pa_nil))
  (pss_cons (ps_for PassesOwn.never rfl (pi_range1 (by rfl) T.z_range (pa_cons (pe_callB call_len_seq (by rfl) T.z_len bt_len (pa_cons (pv 2) pa_nil)) pa_nil)) (pg_name (i := 4) sc_law_covering.nd rfl (Or.inl rfl))
  (pss_cons (ps_set (i := 5) sc_law_covering.nd rfl (Or.inr rfl) (pe_ix ix_tup (pv 2) (pv 4) (fun _ _ => rfl)))
  (pss_cons (ps_if (PW.pt (pw_or (pt_not (pt_val (pe_callB call_isA (by rfl) T.z_isinstance bt_isinstance (pa_cons (pv 5) (pa_cons (pe_bltn (by rfl) T.z_tuple (v := .ty "tuple") bt_tuple rfl) pa_nil))))) (pw_or (pt_cmpR op_eq (pe_callB call_len_seq (by rfl) T.z_len bt_len (pa_cons (pv 5) pa_nil)) pe_int (nomark _)) (pw_or1 (pt_val (pe_callB (cr_any rfl) (by rfl) T.z_any bt_any (pa_cons (pe_lc (own := [("name", 6)]) rfl sc_law_covering.nd (pi_tup (pv 5)) (blkOk_by (N := ["names", "ahead", "thing", "told", "at", "row", "name", "place"]) (sc := defScope s_law_covering) (by decide +kernel)) (fun _ _ _ _ _ => (pg_name (i := 6) sc_law_covering.nd rfl (Or.inl rfl))) (fun _ _ _ _ _ => pts_nil) (fun _ _ _ _ _ => (pe_not (pe_callB call_isA (by rfl) T.z_isinstance bt_isinstance (pa_cons (pv 6) (pa_cons (pe_bltn (by rfl) T.z_str (v := .ty "str") bt_str rfl) pa_nil)))))) pa_nil))))))) (pss_one (ps_ret pe_bl))
  pss_nil)
  (pss_cons (ps_if (pt_val (pe_callB (cr_any rfl) (by rfl) T.z_any bt_any (pa_cons (pe_lc (own := [("name", 6)]) rfl sc_law_covering.nd (pi_tup (pv 5)) (blkOk_by (N := ["names", "ahead", "thing", "told", "at", "row", "name", "place"]) (sc := defScope s_law_covering) (by decide +kernel)) (fun _ _ _ _ _ => (pg_name (i := 6) sc_law_covering.nd rfl (Or.inl rfl))) (fun _ _ _ _ _ => pts_nil) (fun _ _ _ _ _ => (pe_or (pe_cmpR (opR_K (r := (fun K => rIn K true)) (K := K) rfl op_notIn_seq) (pv 6) (pv 0) (by with_unfolding_all rfl)) (pe_or (pe_cmpR (opR_K (r := (fun K => rIn K false)) (K := K) rfl op_in_seq) (pv 6) (pv 3) (by with_unfolding_all rfl)) (pe_one (pe_cmpR op_gt (pe_bmZ PySem.F.slot_tuple_count PySem.F.type_tuple_count (mtR_K (r := rTCount) (K := K) rfl mt_tcount) (pv 5) (pa_cons (pv 6) pa_nil)) pe_int (nomark _))))))) pa_nil))) (pss_one (ps_ret pe_bl))
  pss_nil)
  (pss_cons (ps_if (pt_val (pe_callB (cr_any rfl) (by rfl) T.z_any bt_any (pa_cons (pe_lc (own := [("place", 7)]) rfl sc_law_covering.nd (pi_range1 (by rfl) T.z_range (pa_cons (pe_op op_sub (pe_callB call_len_seq (by rfl) T.z_len bt_len (pa_cons (pv 5) pa_nil)) pe_int) pa_nil)) (blkOk_by (N := ["names", "ahead", "thing", "told", "at", "row", "name", "place"]) (sc := defScope s_law_covering) (by decide +kernel)) (fun _ _ _ _ _ => (pg_name (i := 7) sc_law_covering.nd rfl (Or.inl rfl))) (fun _ _ _ _ _ => pts_nil) (fun _ _ _ _ _ => (pe_cmp (pc_dnotin hu (pe_tup (pa_cons (pe_ix (ixR_K (r := rIxT) (K := K) rfl ix_tup) (pv 5) (pv 7) (fun _ _ => rfl)) (pa_cons (pe_ix (ixR_K (r := rIxT) (K := K) rfl ix_tup) (pv 5) (pe_op op_add (pv 7) pe_int) (fun _ _ => rfl)) pa_nil))) (pv 1))))) pa_nil))) (pss_one (ps_ret pe_bl))
  pss_nil)
  (pss_cons (ps_if (PW.pt (pw_and (pt_cmpR op_gt (pv 4) pe_int (nomark _)) (pw_and1 (pt_not (pt_cmpR (op_ltST hu1) (pe_ix ix_tup (pv 2) (pe_op op_sub (pv 4) pe_int) (fun _ _ => rfl)) (pv 5) (nomark _)))))) (pss_one (ps_ret pe_bl))
  pss_nil)
  (pss_one (ps_expr (pe_bm PySem.F.plainAttrs_list PySem.F.slot_list_extend PySem.F.type_list_extend mt_extendZ (pv 3) (pa_cons (pv 5) pa_nil))))))))))
  (pss_one (ps_ret (pe_cmpR op_eq (pe_callB call_len_seq (by rfl) T.z_len bt_len (pa_cons (pv 3) pa_nil)) (pe_callB call_len_seq (by rfl) T.z_len bt_len (pa_cons (pv 0) pa_nil)) (nomark _))))))), body_of h fun ρ xs R hF => ?_⟩
    obtain ⟨names, ah, L, t, rfl, hah, hN, hth, k⟩ := hF
    have hz := hN.z
    have no : ∀ {ρ'}, AB.Sub ρ ρ' → ¬ CovD names (SL L) t → ∃ ρ2, AB.Sub ρ2 ρ' ∧ R (.d (.bl false)) ρ2 := fun {ρ'} hs h => ⟨ρ, hs, k false ⟨fun z => (by cases z), fun z => (h z).elim⟩⟩
    repeat (first | with_reducible refine ws_seq ?_ | with_reducible refine ws_if ?_ | refine we_var rfl ?_ | with_reducible refine wa_cons ?_ | with_reducible refine wa_nil ?_ | with_reducible refine we_cb ?_ | with_reducible refine wt_B ?_ | with_reducible refine wt_not ?_ | with_reducible refine we_ty ?_)
    refine on_is hth.p (kb_tup t hth.p) ?_
    repeat (first | refine ⟨_, (rfl : AB.A.d (D.bl _) = _), ?_⟩)
    refine ⟨fun c => ?_, fun c => ?_⟩
    · with_reducible repeat (first | refine ws_ret ?_ | refine we_bl ?_)
      refine no (AB.Sub.refl _) fun ⟨r, e, _⟩ => ?_
      rw [e] at c
      cases c
    obtain ⟨l, rfl⟩ := isTup_iff.mp (by simpa using c)
    obtain ⟨hll, hpl⟩ := hth.l l rfl
    with_reducible repeat (first | refine ws_seq ?_ | refine ws_asg ?_ | refine ws_next ?_)
    refine we_lstM ?_
    with_reducible repeat (first | refine wa_nil ?_)
    refine ⟨by show 0 ≤ 100000; decide, fun to hto => ?_⟩
    with_reducible repeat (first | refine ws_seq ?_ | refine wg_name ?_)
    have toa : to ≠ ah := fun z => by rw [z, hah] at hto; cases hto
    refine ws_for (wi_rng1 ?_)
    repeat (first | refine we_var rfl ?_ | with_reducible refine wa_cons ?_ | with_reducible refine wa_nil ?_ | with_reducible refine we_cb ?_ | with_reducible refine on_lenT ?_)
    refine ⟨_, rfl, by omega, ?_⟩
    rw [Int.toNat_natCast]
    refine ⟨fun i γ ρ' => ∃ (rs : List (List Str)) (v4 v5 : Option AB.A), γ = [some (.d (.tup (names.map D.str))), some (.m ah), some (.d (.tup l)), some (.m to), v4, v5, none, none] ∧ ρ' to = some (.lst ((rs.flatten.map D.str).map .d)) ∧ AB.Sub ρ ρ' ∧ l.take i = rs.map tupD ∧ rs.length = i ∧ RowsUp names (SL L) rs, ?_, fun _ _ _ _ _ => trivial, ?_, ?_⟩
    · exact ⟨[], _, _, rfl, pu_same, (AB.Sub.refl ρ).new hto, by simp, rfl, ⟨fun r h => by simp at h, fun x h => by simp at h, by simp, fun r h => by simp at h, rfl⟩⟩
    · rintro i y γ ρ' ey ⟨rs, v4, v5, rfl, h1, h2, h3, h4, h5⟩
      obtain ⟨hi, rfl⟩ := rgA_at ey
      obtain ⟨d, ei⟩ : ∃ d, l[i]? = some d := ⟨_, List.getElem?_eq_getElem hi⟩
      have hrow := hpl d (List.mem_of_getElem? ei)
      have hfl : rs.flatten.length ≤ 90 := Nat.le_trans (KN.nodup_len h5.nd h5.inn) hz
      -- a covering would go on with this row
      have at_ : CovD names (SL L) (.tup l) → ∃ r, d = tupD r ∧ RowStep names (SL L) rs r := fun ⟨rs', e, hc, ha⟩ => by
        have e' := D.tup.inj e
        have e1 : rs'.take i = rs := by
          apply rows_inj
          rw [← h3, e', List.map_take]
        rw [e', List.getElem?_map] at ei
        obtain ⟨r, er, ed⟩ := Option.map_eq_some_iff.mp ei
        refine ⟨r, ed.symm, ?_⟩
        have := cov_step hN.nd hc ha er
        rw [e1] at this
        exact this
      refine wg_name ?_
      repeat (first | with_reducible refine ws_seq ?_ | with_reducible refine ws_asg ?_ | with_reducible refine we_op ?_ | refine we_var rfl ?_)
      refine o2_ixT (z := d) (by rw [Int.zero_add]; exact atI_nat' ei) ?_
      repeat (first | with_reducible refine ws_seq ?_ | with_reducible refine ws_if ?_ | with_reducible refine wg_name ?_ | refine we_var rfl ?_ | with_reducible refine wa_cons ?_ | with_reducible refine wa_nil ?_ | with_reducible refine we_cb ?_ | with_reducible refine wt_B ?_ | with_reducible refine wt_not ?_ | with_reducible refine wt_or ?_ | with_reducible refine we_ty ?_)
      refine on_is hrow.p (kb_tup d hrow.p) ?_
      repeat (first | refine ⟨_, (rfl : AB.A.d (D.bl _) = _), ?_⟩)
      refine ⟨fun c2 => ?_, fun c2 => ?_⟩
      · refine ⟨fun _ => ?_, fun z => (by cases z)⟩
        with_reducible repeat (first | refine ws_ret ?_ | refine we_bl ?_)
        refine no h2 fun h => ?_
        obtain ⟨r, e, _⟩ := at_ h
        rw [e] at c2
        cases c2
      obtain ⟨m, rfl⟩ := isTup_iff.mp (by simpa using c2)
      obtain ⟨hml, hmp⟩ := hrow.l m rfl
      repeat (first | with_reducible refine we_op ?_ | refine we_var rfl ?_ | with_reducible refine we_int ?_ | with_reducible refine wa_cons ?_ | with_reducible refine wa_nil ?_ | with_reducible refine we_cb ?_ | with_reducible refine wt_test ?_ | with_reducible refine wt_or ?_ | refine ⟨_, (rfl : AB.A.d (D.bl _) = _), ?_⟩ | with_reducible refine o2_eqI ?_ | with_reducible refine on_lenT ?_)
      refine ⟨fun c3 => ?_, fun c3 => ?_⟩
      · refine ⟨fun _ => ?_, fun z => (by cases z)⟩
        with_reducible repeat (first | refine ws_ret ?_ | refine we_bl ?_)
        refine no h2 fun h => ?_
        obtain ⟨r, e, hs⟩ := at_ h
        rw [D.tup.inj e] at c3
        cases r with
        | nil => exact hs.ne rfl
        | cons x r => simp at c3; omega
      with_reducible repeat (first | refine wa_cons ?_ | refine we_cb ?_ | refine wt_B ?_)
      refine we_lcF (wi_tup ?_)
      repeat (first | refine we_var rfl ?_)
      refine ⟨m, rfl, D, m, id, fun d => .bl (!isStr d), fun _ => true, by rw [List.map_id], fun _ _ => trivial, by omega, fun n hn ρx sb => ?_, ?_⟩
      · refine wgv_name (by decide) ⟨rfl, wt_yes ⟨rfl, rfl, fun _ => ?_⟩⟩
        repeat (first | refine we_var rfl ?_ | with_reducible refine wa_cons ?_ | with_reducible refine wa_nil ?_ | with_reducible refine we_cb ?_ | with_reducible refine we_ty ?_ | with_reducible refine we_notV ?_)
        refine on_is (hmp n hn) (kb_str n (hmp n hn)) ?_
        repeat (first | refine ⟨_, (rfl : AB.A.d (D.bl _) = _), ?_⟩)
        exact ⟨rfl, rfl⟩
      rw [nocut]
      with_reducible repeat (first | refine wa_nil ?_)
      refine on_any (bs := m.map fun d => !isStr d) (by rw [show m.map (fun d => D.bl (!isStr d)) = (m.map fun d => !isStr d).map D.bl by rw [List.map_map]; rfl]; exact lsd) ?_
      repeat (first | refine ⟨_, (rfl : AB.A.d (D.bl _) = _), ?_⟩)
      refine ⟨fun c4 => ?_, fun c4 => ?_⟩
      · with_reducible repeat (first | refine ws_ret ?_ | refine we_bl ?_)
        refine no h2 fun h => ?_
        obtain ⟨r, e, hs⟩ := at_ h
        rw [D.tup.inj e] at c4
        obtain ⟨b, hb, hb2⟩ := List.any_eq_true.mp c4
        obtain ⟨d, hd, rfl⟩ := List.mem_map.mp hb
        obtain ⟨z, hz, rfl⟩ := List.mem_map.mp hd
        cases hb2
      obtain ⟨r, rfl⟩ := strs_all fun x hx => by
        cases q : isStr x with
        | true => rfl
        | false =>
          have : (m.map fun d => !isStr d).any id = true := List.any_eq_true.mpr ⟨_, List.mem_map.mpr ⟨x, hx, rfl⟩, by rw [q]; rfl⟩
          rw [this] at c4
          cases c4
      rw [List.length_map] at hml
      have hrne : r ≠ [] := by
        rintro rfl
        simp at c3
      have atr : CovD names (SL L) (.tup l) → RowStep names (SL L) rs r := fun h => by
        obtain ⟨r', e, hs⟩ := at_ h
        rw [tupD_inj e]
        exact hs
      -- its names
      let pp : Str → Bool := fun z => !decide (z ∈ names) || (decide (z ∈ rs.flatten) || decide (1 < r.count z))
      with_reducible repeat (first | refine ws_seq ?_ | refine ws_if ?_ | refine ws_next ?_ | refine wa_cons ?_ | refine we_cb ?_ | refine wt_B ?_)
      refine we_lcF (wi_tup ?_)
      repeat (first | refine we_var rfl ?_)
      refine ⟨_, rfl, Str, r, D.str, fun z => .bl (pp z), fun _ => true, rfl, fun _ _ => trivial, by omega, fun n hn ρx sb => ?_, ?_⟩
      · refine wgv_name (by decide) ⟨rfl, wt_yes ⟨rfl, rfl, fun _ => ?_⟩⟩
        refine we_orV (we_op ?_)
        repeat (first | refine we_var rfl ?_)
        refine o2_inS (.inr rfl) ?_
        refine ⟨_, rfl, fun b3 => ?_, fun b3 => ?_⟩
        · have b3' : (!decide (n ∈ names)) = true := b3
          exact ⟨rfl, by show _ = AB.A.d (D.bl (!decide _ || _)); rw [b3']; rfl⟩
        · have b3' : (!decide (n ∈ names)) = false := b3
          refine we_orV (we_op ?_)
          repeat (first | refine we_var rfl ?_)
          refine o2_inS (.inl (lsm (sb _ _ h1))) ?_
          refine ⟨_, rfl, fun b4 => ?_, fun b4 => ?_⟩
          · have b4' : decide (n ∈ rs.flatten) = true := b4
            exact ⟨rfl, by show _ = AB.A.d (D.bl (!decide _ || (decide _ || _))); rw [b3', b4']; rfl⟩
          · have b4' : decide (n ∈ rs.flatten) = false := b4
            refine we_op (we_bmZ ?_)
            repeat (first | refine we_var rfl ?_)
            refine ⟨⟨_, rfl⟩, ?_⟩
            repeat (first | refine we_var rfl ?_ | with_reducible refine wa_cons ?_ | with_reducible refine wa_nil ?_)
            refine on_tcount rfl (flat_strsD r) ?_
            rw [count_strs]
            repeat (first | with_reducible refine we_int ?_ | refine o2_I0 (fun _ => Rep.bl _) ?_)
            refine ⟨rfl, ?_⟩
            show _ = AB.A.d (D.bl (!decide _ || (decide _ || _)))
            rw [b3', b4', Bool.false_or, Bool.false_or]
            congr 2
            exact decide_eq_decide.mpr ⟨fun h => by omega, fun h => by omega⟩
      rw [nocut]
      with_reducible repeat (first | refine wa_nil ?_)
      refine on_any (bs := r.map pp) (by rw [show r.map (fun z => D.bl (pp z)) = (r.map pp).map D.bl by rw [List.map_map]; rfl]; exact lsd) ?_
      have hpp : ∀ z, pp z = true ↔ z ∉ names ∨ z ∈ rs.flatten ∨ 1 < r.count z := fun z => by
        show (!decide _ || (decide _ || decide _)) = true ↔ _
        rw [Bool.or_eq_true, Bool.or_eq_true, decide_eq_true_eq, decide_eq_true_eq, Bool.not_eq_true', decide_eq_false_iff_not]
      refine ⟨_, rfl, fun c5 => ?_, fun c5 => ?_⟩
      · with_reducible repeat (first | refine ws_ret ?_ | refine we_bl ?_)
        refine no h2 fun h => ?_
        have hs := atr h
        obtain ⟨b, hb, hb2⟩ := List.any_eq_true.mp c5
        obtain ⟨z, hz, rfl⟩ := List.mem_map.mp hb
        rcases (hpp z).mp hb2 with q | q | q
        · exact q (hs.inn z hz)
        · exact hs.new z hz q
        · exact nodup_count.mp hs.nd z hz q
      have hno : ∀ z, z ∈ r → pp z = false := fun z hz => by
        cases q : pp z with
        | false => rfl
        | true =>
          have : (r.map pp).any id = true := List.any_eq_true.mpr ⟨_, List.mem_map.mpr ⟨z, hz, rfl⟩, q⟩
          rw [this] at c5
          cases c5
      have hno' : ∀ z, z ∈ r → ¬ (z ∉ names ∨ z ∈ rs.flatten ∨ 1 < r.count z) := fun z hz h => by
        have := hno z hz
        rw [(hpp z).mpr h] at this
        cases this
      -- each ahead of the next
      let qq : Nat → Bool := fun j => !decide ((r.getD j Str.empty, r.getD (j + 1) Str.empty) ∈ L)
      with_reducible repeat (first | refine ws_seq ?_ | refine ws_if ?_ | refine ws_next ?_ | refine wa_cons ?_ | refine we_cb ?_ | refine wt_B ?_)
      refine we_lcF (wi_rng1 ?_)
      repeat (first | with_reducible refine we_op ?_ | refine we_var rfl ?_ | with_reducible refine we_int ?_ | with_reducible refine wa_cons ?_ | with_reducible refine wa_nil ?_ | with_reducible refine we_cb ?_ | refine o2_I0 (fun _ => Rep.int _) ?_ | with_reducible refine on_lenT ?_)
      rw [List.length_map]
      have hr0 : 0 < r.length := List.length_pos_iff.mpr hrne
      refine ⟨_, rfl, by omega, ?_⟩
      rw [show ((r.length : Nat) : Int) - 1 = ((r.length - 1 : Nat) : Int) by omega, rgA_src, Int.toNat_natCast]
      refine ⟨Nat, List.range (r.length - 1), fun i => D.int (0 + (i : Nat)), fun j => .bl (qq j), fun _ => true, rfl, fun _ _ => trivial, by rw [List.length_range]; omega, fun n hn ρx sb => ?_, ?_⟩
      · have hn := List.mem_range.mp hn
        have g1 : (r.map D.str)[n]? = some (.str (r.getD n Str.empty)) := by
          rw [List.getElem?_map, List.getD_eq_getElem?_getD, List.getElem?_eq_getElem (show n < r.length by omega)]
          rfl
        have g2 : (r.map D.str)[n + 1]? = some (.str (r.getD (n + 1) Str.empty)) := by
          rw [List.getElem?_map, List.getD_eq_getElem?_getD, List.getElem?_eq_getElem (show n + 1 < r.length by omega)]
          rfl
        refine wgv_name (by decide) ⟨rfl, wt_yes ⟨rfl, rfl, fun _ => ?_⟩⟩
        refine we_dnotin (we_ptup ?_)
        repeat (first | with_reducible refine we_op ?_ | refine we_var rfl ?_ | with_reducible refine wa_cons ?_)
        refine o2_ixT (z := .str (r.getD n Str.empty)) (by rw [Int.zero_add]; exact atI_nat' g1) ?_
        repeat (first | with_reducible refine we_op ?_ | refine we_var rfl ?_ | with_reducible refine we_int ?_ | with_reducible refine wa_cons ?_ | refine o2_I0 (fun _ => Rep.int _) ?_)
        refine o2_ixT (z := .str (r.getD (n + 1) Str.empty)) (by rw [Int.zero_add, show ((n : Nat) : Int) + 1 = ((n + 1 : Nat) : Int) by omega]; exact atI_nat' g2) ?_
        with_reducible repeat (first | refine wa_nil ?_)
        refine ⟨[.str (r.getD n Str.empty), .str (r.getD (n + 1) Str.empty)], rfl, (by show 2 ≤ 100000; decide), ?_⟩
        repeat (first | refine we_var rfl ?_)
        refine ⟨_, pair_get (sb _ _ (h2 _ _ hah)), ?_⟩
        rw [pair_has]
        exact ⟨rfl, rfl⟩
      rw [nocut]
      with_reducible repeat (first | refine wa_nil ?_)
      refine on_any (bs := (List.range (r.length - 1)).map qq) (by rw [show (List.range (r.length - 1)).map (fun j => D.bl (qq j)) = ((List.range (r.length - 1)).map qq).map D.bl by rw [List.map_map]; rfl]; exact lsd) ?_
      have hqq : ∀ (j : Nat) (x y : Str), r[j]? = some x → r[j + 1]? = some y → qq j = !decide ((x, y) ∈ L) := fun j x y e1 e2 => by
        show (!decide ((r.getD j Str.empty, r.getD (j + 1) Str.empty) ∈ L)) = _
        rw [List.getD_eq_getElem?_getD, List.getD_eq_getElem?_getD, e1, e2]
        rfl
      refine ⟨_, rfl, fun c6 => ?_, fun c6 => ?_⟩
      · with_reducible repeat (first | refine ws_ret ?_ | refine we_bl ?_)
        refine no h2 fun h => ?_
        have hs := atr h
        obtain ⟨b, hb, hb2⟩ := List.any_eq_true.mp c6
        obtain ⟨j, hj, rfl⟩ := List.mem_map.mp hb
        have hj := List.mem_range.mp hj
        have f1 : r[j]? = some r[j] := List.getElem?_eq_getElem (by omega)
        have f2 : r[j + 1]? = some r[j + 1] := List.getElem?_eq_getElem (by omega)
        have hb2' : qq j = true := hb2
        rw [hqq j _ _ f1 f2, decide_eq_true (hs.ch j _ _ f1 f2)] at hb2'
        cases hb2'
      have hch : ∀ (j : Nat) (x y : Str), r[j]? = some x → r[j + 1]? = some y → SL L x y := fun j x y e1 e2 => by
        have hj := (List.getElem?_eq_some_iff.mp e2).1
        by_cases q : (x, y) ∈ L
        · exact q
        · exfalso
          have : ((List.range (r.length - 1)).map qq).any id = true := List.any_eq_true.mpr ⟨_, List.mem_map.mpr ⟨j, List.mem_range.mpr (by omega), rfl⟩, by
            show qq j = true
            rw [hqq j x y e1 e2, decide_eq_false q]
            rfl⟩
          rw [this] at c6
          cases c6
      -- above the row ahead
      refine ws_next ?_
      refine ws_seq (WS.thn (P := fun γ2 ρ2 => ρ2 = ρ' ∧ γ2 = [some (.d (.tup (names.map D.str))), some (.m ah), some (.d (.tup l)), some (.m to), some (.d (.int (0 + (i : Nat)))), some (.d (tupD r)), none, none] ∧ ∀ q, rs[rs.length - 1]? = some q → ltS q r = true) ?_ ?_)
      · repeat (first | with_reducible refine ws_if ?_ | with_reducible refine we_op ?_ | refine we_var rfl ?_ | with_reducible refine we_int ?_ | with_reducible refine wt_test ?_ | with_reducible refine wt_and ?_ | refine ⟨_, (rfl : AB.A.d (D.bl _) = _), ?_⟩ | refine o2_I0 (fun _ => Rep.bl _) ?_)
        refine ⟨fun c7 => ?_, fun c7 => ?_⟩
        · have hi0 : 0 < i := by have := of_decide_eq_true c7; omega
          obtain ⟨q, eq⟩ : ∃ q, rs[i - 1]? = some q := ⟨_, List.getElem?_eq_getElem (show i - 1 < rs.length by omega)⟩
          have el : l[i - 1]? = some (tupD q) := by
            have : (l.take i)[i - 1]? = (rs.map tupD)[i - 1]? := by rw [h3]
            rw [List.getElem?_take, if_pos (by omega), List.getElem?_map, eq] at this
            exact this
          repeat (first | with_reducible refine we_op ?_ | refine we_var rfl ?_ | with_reducible refine we_int ?_ | with_reducible refine wt_test ?_ | with_reducible refine wt_not ?_ | refine o2_I0 (fun _ => Rep.int _) ?_)
          refine o2_ixT (z := tupD q) (by rw [show (0 : Int) + ((i : Nat) : Int) - 1 = ((i - 1 : Nat) : Int) by omega]; exact atI_nat' el) ?_
          repeat (first | refine we_var rfl ?_)
          refine o2_ltT ?_
          refine ⟨_, rfl, fun c8 => ?_, fun c8 => ?_⟩
          · with_reducible repeat (first | refine ws_ret ?_ | refine we_bl ?_)
            refine no h2 fun h => ?_
            have := (atr h).up q (by rw [h4]; exact eq)
            have c8' : (!ltS q r) = true := c8
            rw [this] at c8'
            cases c8'
          · with_reducible repeat (first | refine ws_next ?_)
            refine ⟨rfl, rfl, fun q' hq' => ?_⟩
            rw [h4, eq] at hq'
            cases hq'
            have c8' : (!ltS q r) = false := c8
            simpa using c8'
        · skip
          refine ⟨fun z => (by cases z), fun _ => ?_⟩
          with_reducible repeat (first | refine ws_next ?_)
          refine ⟨rfl, rfl, fun q hq => ?_⟩
          have h0 := of_decide_eq_false c7
          have := (List.getElem?_eq_some_iff.mp hq).1
          omega
      · rintro γ2 ρ2 ⟨rfl, rfl, hup⟩
        have hs : RowStep names (SL L) rs r := ⟨hrne, fun x hx => Classical.byContradiction fun h => hno' x hx (.inl h), fun x hx h => hno' x hx (.inr (.inl h)), nodup_count.mpr fun x hx h => hno' x hx (.inr (.inr h)), hch, hup⟩
        with_reducible repeat (first | refine ws_drop ?_)
        refine we_bm ?_
        repeat (first | refine we_var rfl ?_)
        refine ⟨ty_lst h1, ?_⟩
        repeat (first | refine we_var rfl ?_ | with_reducible refine wa_cons ?_ | with_reducible refine wa_nil ?_)
        refine on_extendT h1 (by rw [src_len, List.length_map]; omega) ?_
        exact ⟨rs ++ [r], _, _, rfl, by rw [pu_same, List.flatten_append]; simp, h2.new hto, by rw [List.take_succ, h3, ei, List.map_append]; rfl, by rw [List.length_append, h4]; rfl, h5.add hs⟩
    · rintro γ ρ' ⟨rs, v4, v5, rfl, h1, h2, h3, h4, h5⟩
      rw [rgA_len] at h3 h4
      rw [List.take_length] at h3
      refine ws_ret ?_
      repeat (first | with_reducible refine we_op ?_ | refine we_var rfl ?_ | with_reducible refine wa_cons ?_ | with_reducible refine wa_nil ?_ | with_reducible refine we_cb ?_)
      refine on_len (lsm h1) ?_
      repeat (first | refine we_var rfl ?_ | with_reducible refine wa_cons ?_ | with_reducible refine wa_nil ?_ | with_reducible refine we_cb ?_ | with_reducible refine o2_eqI ?_ | with_reducible refine on_lenT ?_)
      rw [src_len, List.length_map]
      refine ⟨ρ, h2, k _ ?_⟩
      rw [decide_eq_true_eq]
      constructor
      · intro e
        have e : rs.flatten.length = names.length := by omega
        refine ⟨rs, by rw [h3], ⟨perm_of h5.nd hN.nd fun x => ⟨h5.inn x, fun hx => ?_⟩, h5.ne, h5.ch⟩, h5.up⟩
        by_cases q : x ∈ rs.flatten
        · exact q
        · exfalso
          have := KN.nodup_len (nd_snoc h5.nd q) (m := names) fun z hz => by
            rcases List.mem_append.mp hz with a | a
            · exact h5.inn z a
            · rw [List.mem_singleton.mp a]
              exact hx
          rw [List.length_append, List.length_singleton] at this
          omega
      · rintro ⟨rs', e, hc, _⟩
        have : rs' = rs := rows_inj (by rw [← D.tup.inj e, h3])
        subst this
        exact congrArg _ hc.perm.length_eq
end
end K82
set_option Elab.async false
set_option linter.all false
set_option maxRecDepth 100000
set_option maxHeartbeats 4000000
namespace K82
open PySem PySem.Spec PyProof.Rows L2 Evl HB AB KX SrtO
structure TxtA (K : PySem.W.Frag) (mg : Str → Option Value) extends Txt9 K mg where
  cPlanError : Addr
  g_PlanError : mg "PlanError" = some (.ref cPlanError)
  dis_widest : Fd K mg "is_widest" sis_widest ["bare", "thing"]
  dis_covering : Fd K mg "is_covering" sis_covering ["bare", "thing"]
  d_law_open : Fd K mg "_law_open" s_law_open ["names", "ahead", "thing"]
  d_law_covering : Fd K mg "_law_covering" s_law_covering ["names", "ahead", "thing"]
section
variable {P : Program} {w : World} {K : PySem.W.Frag} {mg : Str → Option Value} {base : Heap}
theorem AhIn.of {names : List Str} {ps L : List (Str × Str)} (h : Bare names ps) (e : ∀ x y, (x, y) ∈ L ↔ SP ps x y) : AhIn names L :=
  ⟨h.f.1, h.z, h.ne, fun x y hxy => SP.mem h.f ((e x y).mp hxy)⟩
theorem Anti.iff_ {names : List Str} {S S' : Str → Str → Prop} {zs : List Str} (e : ∀ x y, S x y ↔ S' x y) : Anti names S zs ↔ Anti names S' zs :=
  ⟨fun h => ⟨h.nd, h.sub, fun a b ha hb q => h.no a b ha hb ((e a b).mpr q)⟩, fun h => ⟨h.nd, h.sub, fun a b ha hb q => h.no a b ha hb ((e a b).mp q)⟩⟩
theorem Cover.iff_ {names : List Str} {S S' : Str → Str → Prop} {rs : List (List Str)} (e : ∀ x y, S x y ↔ S' x y) : Cover names S rs ↔ Cover names S' rs :=
  ⟨fun h => h.imp fun a b => (e a b).mp, fun h => h.imp fun a b => (e a b).mpr⟩
/-! ### _law_said -/
abbrev s_law_said : Stmt := topS 31
theorem sc_law_said : FnScope ["bare", "ahead", "many", "thing", "rows", "told", "good"] ["bare", "ahead", "many", "thing", "rows"] (defScope s_law_said) := ⟨rfl, rfl, rfl, by decide +kernel, rfl, by decide +kernel, by decide +kernel⟩
def FSaid (xs : List AB.A) (ρ : Sto) (R : QA) : Prop := ∃ names ps ah L t rows, ∃ m : Nat, xs = [.d (bareD names ps), .m ah, .d (.int (m : Nat)), .d t, .d (.bl rows)] ∧ ρ ah = some (.dT (pairK L)) ∧ Bare names ps ∧ (∀ x y, (x, y) ∈ L ↔ SP ps x y) ∧ Best names (SP ps) m ∧ (rows = true → Th2 t) ∧ (rows = false → Th1 t) ∧ R (.d (.bl true)) ρ
theorem ok_said {f : Addr} {fd : FuncData} (F : Fun K "_law_said" "_law_said" s_law_said f fd) (T : TxtA K mg) : FnOk P w K mg base CX0 6 f fd ["bare", "ahead", "many", "thing", "rows"] (spA FSaid) := by
  have Gis_widest : FnOk P w K mg base CX0 5 T.dis_widest.f T.dis_widest.fd ["bare", "thing"] (spA FIsW) := ok_isw T.dis_widest.F T.toTxt7
  have Gis_covering : FnOk P w K mg base CX0 5 T.dis_covering.f T.dis_covering.fd ["bare", "thing"] (spA FIsC) := ok_isc T.dis_covering.F T.toTxt8
  have G_law_open : FnOk P w K mg base CX0 1 T.d_law_open.f T.d_law_open.fd ["names", "ahead", "thing"] (spA FLOpen) := ok_lopen T.d_law_open.F T.toTz
  have G_law_covering : FnOk P w K mg base CX0 1 T.d_law_covering.f T.d_law_covering.fd ["names", "ahead", "thing"] (spA FLCov) := ok_lcov T.d_law_covering.F T.toTz
  refine F.ok sc_law_said (spA_len fun xs ρ R h => ?_) (fun cdv Ar outer s H vs Q E hr h => ?_)
  · obtain ⟨_, _, _, _, _, _, _, rfl, _⟩ := h
    rfl
  · have hu : _ + 1 < cLine := hu_of hr
    refine ⟨_, (pss_cons (ps_try_only rfl rfl ⟨rfl, by decide, .inl T.g_PlanError⟩ takes0 (fun W pn xe tk _ => (pss_one (ps_set (i := 5) sc_law_said.nd rfl (Or.inl rfl) (pe_ifExp (pt_val (pv 4)) (pe_call Gis_covering (hr.mono (by first | decide | omega)) rfl T.dis_covering.g T.dis_covering.k T.dis_covering.b .nil pass0 (pa_cons (pv 0) (pa_cons (pv 3) pa_nil))) (pe_call Gis_widest (hr.mono (by first | decide | omega)) rfl T.dis_widest.g T.dis_widest.k T.dis_widest.b .nil pass0 (pa_cons (pv 0) (pa_cons (pv 3) pa_nil))))))) (fun a oe cls d pn _ _ => (pss_one (ps_ret pe_bl))))
  (pss_cons (ps_set (i := 6) sc_law_said.nd rfl (Or.inl rfl) (pe_ifExp (pt_val (pv 4)) (pe_call G_law_covering (hr.mono (by first | decide | omega)) rfl T.d_law_covering.g T.d_law_covering.k T.d_law_covering.b .nil pass0 (pa_cons (pe_ix ix_tup (pv 0) pe_int (fun _ _ => rfl)) (pa_cons (pv 1) (pa_cons (pv 3) pa_nil)))) (pe_call G_law_open (hr.mono (by first | decide | omega)) rfl T.d_law_open.g T.d_law_open.k T.d_law_open.b .nil pass0 (pa_cons (pe_ix ix_tup (pv 0) pe_int (fun _ _ => rfl)) (pa_cons (pv 1) (pa_cons (pv 3) pa_nil))))))
  (pss_one (ps_ret (pe_ifExp (PW.pt (pw_and (pt_val (pv 6)) (pw_and1 (pt_cmpR op_eq (pe_callB call_len_seq (by rfl) T.z_len bt_len (pa_cons (pv 3) pa_nil)) (pv 2) (nomark _))))) (pe_cmpR op_isBl (pv 5) pe_bl (nomark _)) (pe_cmpR op_isBl (pv 5) pe_bl (nomark _))))))), body_of h fun ρ xs R hF => ?_⟩
    obtain ⟨names, ps, ah, L, t, rows, m, rfl, hah, hB, hL, hbest, ht2, ht1, k⟩ := hF
    have hN : AhIn names L := AhIn.of hB hL
    have i0 : atI [D.tup (names.map D.str), D.tup (ps.map pairD)] ((0 : Nat) : Int) = some (D.tup (names.map D.str)) := atI_nat' rfl
    cases rows with
    | true =>
      have ht := ht2 rfl
      repeat (first | with_reducible refine ws_seq ?_ | with_reducible refine ws_asg ?_ | refine we_var rfl ?_ | with_reducible refine wt_B ?_ | with_reducible refine we_if ?_ | refine ⟨_, (rfl : AB.A.d (D.bl _) = _), ?_⟩)
      refine ⟨fun _ => ?_, fun z => (by cases z)⟩
      repeat (first | refine we_var rfl ?_ | with_reducible refine wa_cons ?_ | with_reducible refine wa_nil ?_ | with_reducible refine we_call ?_)
      refine ⟨names, ps, t, rfl, hB, ht, fun b hb => ?_⟩
      repeat (first | with_reducible refine ws_seq ?_ | with_reducible refine ws_asg ?_ | with_reducible refine wg_name ?_ | refine we_var rfl ?_ | with_reducible refine wt_B ?_ | with_reducible refine we_if ?_ | refine ⟨_, (rfl : AB.A.d (D.bl _) = _), ?_⟩)
      refine ⟨fun _ => ?_, fun z => (by cases z)⟩
      repeat (first | with_reducible refine we_op ?_ | refine we_var rfl ?_ | with_reducible refine we_int ?_ | with_reducible refine wa_cons ?_ | with_reducible refine we_call ?_)
      refine o2_ixT i0 ?_
      repeat (first | refine we_var rfl ?_ | with_reducible refine wa_cons ?_ | with_reducible refine wa_nil ?_)
      refine ⟨names, ah, L, t, rfl, hah, hN, ht, fun g hg => ?_⟩
      have hg' : g = true ↔ CovD names (SP ps) t := hg.trans ⟨fun ⟨rs, a, b, c⟩ => ⟨rs, a, (Cover.iff_ hL).mp b, c⟩, fun ⟨rs, a, b, c⟩ => ⟨rs, a, (Cover.iff_ hL).mpr b, c⟩⟩
      repeat (first | with_reducible refine ws_ret ?_ | with_reducible refine wg_name ?_ | refine we_var rfl ?_ | with_reducible refine wt_B ?_ | with_reducible refine we_if ?_ | with_reducible refine wt_and ?_ | refine ⟨_, (rfl : AB.A.d (D.bl _) = _), ?_⟩)
      refine ⟨fun c1 => ?_, fun c1 => ?_⟩
      · obtain ⟨rs, rfl, hc, ha⟩ := hg'.mp c1
        repeat (first | with_reducible refine we_op ?_ | refine we_var rfl ?_ | with_reducible refine wa_cons ?_ | with_reducible refine wa_nil ?_ | with_reducible refine we_cb ?_ | with_reducible refine wt_test ?_ | refine ⟨_, (rfl : AB.A.d (D.bl _) = _), ?_⟩ | with_reducible refine o2_eqI ?_ | with_reducible refine on_lenT ?_)
        refine ⟨fun c2 => ?_, fun c2 => ?_⟩
        · have e : rs.length = m := by
            have := of_decide_eq_true c2
            rw [List.length_map] at this
            omega
          have hbt : b = true := hb.mpr ⟨rs, rfl, hc, ha, by rw [e]; exact hbest⟩
          rw [hbt]
          repeat (first | with_reducible refine we_op ?_ | refine we_var rfl ?_ | with_reducible refine we_bl ?_ | with_reducible refine o2_isB ?_)
          exact ⟨_, AB.Sub.refl _, k⟩
        · have hbf : b = false := by
            cases q : b with
            | false => rfl
            | true =>
              obtain ⟨rs', e, _, _, hb'⟩ := hb.mp q
              have := rows_inj (D.tup.inj e)
              subst this
              have e2 := hb'.one (SP.trans ps) hbest
              have := of_decide_eq_false c2
              rw [List.length_map] at this
              omega
          rw [hbf]
          repeat (first | with_reducible refine we_op ?_ | refine we_var rfl ?_ | with_reducible refine we_bl ?_ | with_reducible refine o2_isB ?_)
          exact ⟨_, AB.Sub.refl _, k⟩
      · have hbf : b = false := by
          cases q : b with
          | false => rfl
          | true =>
            obtain ⟨rs', e, h1, h2, _⟩ := hb.mp q
            rw [hg'.mpr ⟨rs', e, h1, h2⟩] at c1
            cases c1
        rw [hbf]
        skip
        refine ⟨fun z => (by cases z), fun _ => ?_⟩
        repeat (first | with_reducible refine we_op ?_ | refine we_var rfl ?_ | with_reducible refine we_bl ?_ | with_reducible refine o2_isB ?_)
        exact ⟨_, AB.Sub.refl _, k⟩
    | false =>
      have ht := ht1 rfl
      repeat (first | with_reducible refine ws_seq ?_ | with_reducible refine ws_asg ?_ | refine we_var rfl ?_ | with_reducible refine wt_B ?_ | with_reducible refine we_if ?_ | refine ⟨_, (rfl : AB.A.d (D.bl _) = _), ?_⟩)
      refine ⟨fun z => (by cases z), fun _ => ?_⟩
      repeat (first | refine we_var rfl ?_ | with_reducible refine wa_cons ?_ | with_reducible refine wa_nil ?_ | with_reducible refine we_call ?_)
      refine ⟨names, ps, t, rfl, hB.f, ht, fun b hb => ?_⟩
      repeat (first | with_reducible refine ws_seq ?_ | with_reducible refine ws_asg ?_ | with_reducible refine wg_name ?_ | refine we_var rfl ?_ | with_reducible refine wt_B ?_ | with_reducible refine we_if ?_ | refine ⟨_, (rfl : AB.A.d (D.bl _) = _), ?_⟩)
      refine ⟨fun z => (by cases z), fun _ => ?_⟩
      repeat (first | with_reducible refine we_op ?_ | refine we_var rfl ?_ | with_reducible refine we_int ?_ | with_reducible refine wa_cons ?_ | with_reducible refine we_call ?_)
      refine o2_ixT i0 ?_
      repeat (first | refine we_var rfl ?_ | with_reducible refine wa_cons ?_ | with_reducible refine wa_nil ?_)
      refine ⟨names, ah, L, t, rfl, hah, hN, ht, fun g hg => ?_⟩
      have hg' : g = true ↔ OpenD names (SP ps) t := hg.trans ⟨fun ⟨rs, a, b, c⟩ => ⟨rs, a, (Anti.iff_ hL).mp b, c⟩, fun ⟨rs, a, b, c⟩ => ⟨rs, a, (Anti.iff_ hL).mpr b, c⟩⟩
      repeat (first | with_reducible refine ws_ret ?_ | with_reducible refine wg_name ?_ | refine we_var rfl ?_ | with_reducible refine wt_B ?_ | with_reducible refine we_if ?_ | with_reducible refine wt_and ?_ | refine ⟨_, (rfl : AB.A.d (D.bl _) = _), ?_⟩)
      refine ⟨fun c1 => ?_, fun c1 => ?_⟩
      · obtain ⟨zs, rfl, hc, ha⟩ := hg'.mp c1
        repeat (first | with_reducible refine we_op ?_ | refine we_var rfl ?_ | with_reducible refine wa_cons ?_ | with_reducible refine wa_nil ?_ | with_reducible refine we_cb ?_ | with_reducible refine wt_test ?_ | refine ⟨_, (rfl : AB.A.d (D.bl _) = _), ?_⟩ | with_reducible refine o2_eqI ?_ | with_reducible refine on_lenT ?_)
        refine ⟨fun c2 => ?_, fun c2 => ?_⟩
        · have e : zs.length = m := by
            have := of_decide_eq_true c2
            rw [List.length_map] at this
            omega
          have hbt : b = true := hb.mpr ⟨zs, rfl, hc, ha, by rw [e]; exact hbest⟩
          rw [hbt]
          repeat (first | with_reducible refine we_op ?_ | refine we_var rfl ?_ | with_reducible refine we_bl ?_ | with_reducible refine o2_isB ?_)
          exact ⟨_, AB.Sub.refl _, k⟩
        · have hbf : b = false := by
            cases q : b with
            | false => rfl
            | true =>
              obtain ⟨rs', e, _, _, hb'⟩ := hb.mp q
              have := tupD_inj e
              subst this
              have e2 := hb'.one (SP.trans ps) hbest
              have := of_decide_eq_false c2
              rw [List.length_map] at this
              omega
          rw [hbf]
          repeat (first | with_reducible refine we_op ?_ | refine we_var rfl ?_ | with_reducible refine we_bl ?_ | with_reducible refine o2_isB ?_)
          exact ⟨_, AB.Sub.refl _, k⟩
      · have hbf : b = false := by
          cases q : b with
          | false => rfl
          | true =>
            obtain ⟨rs', e, h1, h2, _⟩ := hb.mp q
            rw [hg'.mpr ⟨rs', e, h1, h2⟩] at c1
            cases c1
        rw [hbf]
        skip
        refine ⟨fun z => (by cases z), fun _ => ?_⟩
        repeat (first | with_reducible refine we_op ?_ | refine we_var rfl ?_ | with_reducible refine we_bl ?_ | with_reducible refine o2_isB ?_)
        exact ⟨_, AB.Sub.refl _, k⟩
end
end K82
set_option Elab.async false
set_option linter.all false
set_option maxRecDepth 100000
set_option maxHeartbeats 4000000
namespace K82
open PySem PySem.Spec PyProof.Rows L2 Evl HB AB KX SrtO
section
variable {P : Program} {w : World} {K : PySem.W.Frag} {mg : Str → Option Value} {base : Heap}
def All1 (ds : List D) : Prop := ∀ d, d ∈ ds → Th1 d
theorem All1.app {a b : List D} (h : All1 a) (k : All1 b) : All1 (a ++ b) := fun d hd => (List.mem_append.mp hd).elim (h d) (k d)
theorem All1.cons {x : D} {a : List D} (h : Th1 x) (k : All1 a) : All1 (x :: a) := fun d hd => (List.mem_cons.mp hd).elim (fun e => by rw [e]; exact h) (k d)
theorem All1.nil : All1 [] := fun d h => by simp at h
theorem th_tup {l : List D} (hz : l.length ≤ 1000) (h : ∀ x ∈ l, plainD x = true) : Th1 (.tup l) := ⟨rfl, fun m e => by rw [← D.tup.inj e]; exact ⟨hz, h⟩⟩
theorem th_lst (l : List D) : Th1 (.lst l) := ⟨rfl, fun m e => by cases e⟩
theorem th_non : Th1 .non := ⟨rfl, fun m e => by cases e⟩
theorem strs_plain {l : List Str} : ∀ x ∈ l.map D.str, plainD x = true := fun x hx => by
  obtain ⟨z, _, rfl⟩ := List.mem_map.mp hx
  rfl
theorem th_strs {l : List Str} (hz : l.length ≤ 1000) : Th1 (tupD l) := th_tup (by rw [List.length_map]; exact hz) strs_plain
theorem cutA_len {α : Type} (l : List α) (a b : Option Int) : (cutA l a b).length ≤ l.length := by
  unfold cutA
  rw [List.length_take, List.length_drop]
  omega
/-! ### _law_sets -/
abbrev s_law_sets : Stmt := topS 32
theorem sc_law_sets : FnScope ["pool", "names", "best", "name", "told", "lap", "at", "other"] ["pool", "names", "best"] (defScope s_law_sets) := ⟨rfl, rfl, rfl, by decide +kernel, rfl, by decide +kernel, by decide +kernel⟩
def FSets (xs : List AB.A) (ρ : Sto) (R : QA) : Prop := ∃ p names best, xs = [.m p, .d (.tup (names.map D.str)), .d (tupD best)] ∧ PoolAt ρ p ∧ names.length ≤ 90 ∧ best.length ≤ 90 ∧ (names ≠ [] → best ≠ []) ∧ ∀ (ds : List D) ρ', All1 ds → ds.length ≤ 100 → Drawn ρ p ρ' → R (.d (.lst ds)) ρ'
theorem ok_sets {f : Addr} {fd : FuncData} (F : Fun K "_law_sets" "_law_sets" s_law_sets f fd) (T : Txt9 K mg) : FnOk P w K mg base CX0 2 f fd ["pool", "names", "best"] (spA FSets) := by
  have G_law_draw : FnOk P w K mg base CX0 1 T.d_law_draw.f T.d_law_draw.fd ["pool", "many"] (spA FDraw) := ok_draw T.d_law_draw.F T.toTz
  refine F.ok sc_law_sets (spA_len fun xs ρ R h => ?_) (fun cdv Ar outer s H vs Q E hr h => ?_)
  · obtain ⟨_, _, _, rfl, _⟩ := h
    rfl
  · have hu : _ + 1 < cLine := hu_of hr
    have hu64 : _ + 64 < cLine := hr.units
    refine ⟨_, (pss_cons (ps_set (i := 4) sc_law_sets.nd rfl (Or.inl rfl) (pe_lst (pa_cons (pv 2) (pa_cons (pe_lc (own := [("name", 3)]) rfl sc_law_sets.nd (pi_tup (pv 2)) (blkOk_by (N := ["pool", "names", "best", "name", "told", "lap", "at", "other"]) (sc := defScope s_law_sets) (by decide +kernel)) (fun _ _ _ _ _ => (pg_name (i := 3) sc_law_sets.nd rfl (Or.inl rfl))) (fun _ _ _ _ _ => pts_nil) (fun _ _ _ _ _ => (pv 3))) (pa_cons (pe_op op_catZ (pv 2) (pe_slice sl_tupZ (pv 2) po_none (po_some pe_int))) (pa_cons (pe_revZ (pv 2)) (pa_cons (pe_op op_catZ (pv 2) (pe_tupZ (pa_cons pe_str pa_nil))) (pa_cons pe_non (pa_cons (pv 1) pa_nil)))))))))
  (pss_cons (ps_for PassesOwn.never rfl (pi_range1 (by rfl) T.z_range (pa_cons (pe_ifExp (pt_truth (pv 1) (fun _ => rfl)) pe_int pe_int) pa_nil)) (pg_name (i := 5) sc_law_sets.nd rfl (Or.inl rfl))
  (pss_cons (ps_set (i := 3) sc_law_sets.nd rfl (Or.inr rfl) (pe_ix ix_tup (pv 1) (pe_call G_law_draw (hr.mono (by first | decide | omega)) rfl T.d_law_draw.g T.d_law_draw.k T.d_law_draw.b .nil pass0 (pa_cons (pv 0) (pa_cons (pe_callB call_len_seq (by rfl) T.z_len bt_len (pa_cons (pv 1) pa_nil)) pa_nil))) (fun _ _ => rfl)))
  (pss_cons (ps_set (i := 6) sc_law_sets.nd rfl (Or.inr rfl) (pe_call G_law_draw (hr.mono (by first | decide | omega)) rfl T.d_law_draw.g T.d_law_draw.k T.d_law_draw.b .nil pass0 (pa_cons (pv 0) (pa_cons (pe_callB call_len_seq (by rfl) T.z_len bt_len (pa_cons (pv 2) pa_nil)) pa_nil))))
  (pss_cons (ps_expr (pe_bm PySem.F.plainAttrs_list PySem.F.slot_list_extend PySem.F.type_list_extend mt_extend (pv 4) (pa_cons (pe_lst (pa_cons (pe_op op_catZ (pe_slice sl_tupZ (pv 2) po_none (po_some (pv 6))) (pe_slice sl_tupZ (pv 2) (po_some (pe_op op_add (pv 6) pe_int)) po_none)) (pa_cons (pe_callTy call_tupleZ (by rfl) T.z_tuple bt_tuple (pa_cons (pe_callB cr_sortedSS (by rfl) T.z_sorted bt_sorted (pa_cons (pe_op op_cat (pe_lc (own := [("other", 7)]) rfl sc_law_sets.nd (pi_tup (pv 2)) (blkOk_by (N := ["pool", "names", "best", "name", "told", "lap", "at", "other"]) (sc := defScope s_law_sets) (by decide +kernel)) (fun _ _ _ _ _ => (pg_name (i := 7) sc_law_sets.nd rfl (Or.inl rfl))) (fun _ _ _ _ _ => (pts_one (pt_cmpR op_ne (pv 7) (pv 3) (nomark _)))) (fun _ _ _ _ _ => (pv 7))) (pe_lst (pa_cons (pv 3) pa_nil))) pa_nil)) pa_nil)) pa_nil))) pa_nil)))
  (pss_one (ps_expr (pe_bm PySem.F.plainAttrs_list PySem.F.slot_list_append PySem.F.type_list_append mt_append (pv 4) (pa_cons (pe_callTy call_tupleZ (by rfl) T.z_tuple bt_tuple (pa_cons (pe_callB cr_sortedSS (by rfl) T.z_sorted bt_sorted (pa_cons (pe_op op_cat (pe_lc (own := [("other", 7)]) rfl sc_law_sets.nd (pi_tup (pv 2)) (blkOk_by (N := ["pool", "names", "best", "name", "told", "lap", "at", "other"]) (sc := defScope s_law_sets) (by decide +kernel)) (fun _ _ _ _ _ => (pg_name (i := 7) sc_law_sets.nd rfl (Or.inl rfl))) (fun _ _ _ _ _ => (pts_one (pt_cmpR op_ne (pv 7) (pe_ix (ixR_K (r := rIxT) (K := K) rfl ix_tup) (pv 2) (pv 6) (fun _ _ => rfl)) (nomark _)))) (fun _ _ _ _ _ => (pv 7))) (pe_lst (pa_cons (pv 3) pa_nil))) pa_nil)) pa_nil)) pa_nil))))))))
  (pss_one (ps_ret (pe_op op_cat (pv 4) (pe_lst (pa_cons (pe_op op_catZ (pe_slice sl_tupZ (pv 2) po_none (po_some pe_int)) (pe_tupZ (pa_cons pe_int pa_nil))) (pa_cons (pe_op op_catZ (pv 2) (pe_tupZ (pa_cons (pe_lst (pa_cons pe_str pa_nil)) pa_nil))) pa_nil)))))))), body_of h fun ρ xs R hF => ?_⟩
    obtain ⟨p, names, best, rfl, hp, hn, hb, hne, k⟩ := hF
    with_reducible repeat (first | refine ws_seq ?_ | refine ws_asg ?_)
    refine we_lstM ?_
    repeat (first | refine we_var rfl ?_ | with_reducible refine wa_cons ?_)
    refine we_lcF (wi_tup ?_)
    repeat (first | refine we_var rfl ?_)
    refine ⟨_, rfl, Str, best, D.str, D.str, fun _ => true, rfl, fun _ _ => trivial, by omega, fun n hn ρx sb => ?_, ?_⟩
    · refine wgv_name (by decide) ⟨rfl, wt_yes ⟨rfl, rfl, fun _ => ?_⟩⟩
      repeat (first | refine we_var rfl ?_)
      exact ⟨rfl, rfl⟩
    rw [nocut]
    repeat (first | with_reducible refine we_op ?_ | refine we_var rfl ?_ | with_reducible refine we_int ?_ | with_reducible refine wa_cons ?_ | with_reducible refine we_sl ?_ | with_reducible refine wo_none ?_ | with_reducible refine wo_some ?_ | refine ⟨_, (rfl : AB.A.d (D.int _) = _), ?_⟩)
    refine o3_tup ?_
    rw [cutD_map]
    have hc1 := cutA_len best none (some 1)
    refine o2_catT (by rw [List.length_map, List.length_map]; omega) ?_
    with_reducible repeat (first | refine wa_cons ?_)
    refine we_revT ?_
    repeat (first | refine we_var rfl ?_)
    refine ⟨_, rfl, ?_⟩
    repeat (first | with_reducible refine we_op ?_ | refine we_var rfl ?_ | with_reducible refine wa_cons ?_)
    refine we_tup ?_
    with_reducible repeat (first | refine we_str ?_ | refine wa_cons ?_ | refine wa_nil ?_)
    refine ⟨[.str (Str.ofString "nobody")], rfl, (by show 1 ≤ 100000; decide), ?_⟩
    refine o2_catT (by rw [List.length_map]; show _ + 1 ≤ _; omega) ?_
    repeat (first | refine we_var rfl ?_ | with_reducible refine we_non ?_ | with_reducible refine wa_cons ?_ | with_reducible refine wa_nil ?_)
    refine ⟨by show 7 ≤ 100000; decide, fun to hto => ?_⟩
    have htp : to ≠ p := fun z => by
      obtain ⟨_, _, _, e⟩ := hp
      rw [z, e] at hto
      cases hto
    with_reducible repeat (first | refine ws_seq ?_ | refine wg_name ?_)
    refine ws_for (WI.mono (Q := fun xs G ρ1 => ρ1 = pu ρ to (.lst ([.d (tupD best), .d (.lst (best.map D.str)), .d (.tup (best.map D.str ++ (cutA best none (some 1)).map D.str)), .d (.tup (best.map D.str).reverse), .d (.tup (best.map D.str ++ [.str (Str.ofString "nobody")])), .d .non, .d (.tup (names.map D.str))])) ∧ (∀ ρ, G ρ) ∧ ∃ n : Nat, n ≤ 4 ∧ (names = [] → n = 0) ∧ xs = rgA 0 n) (wi_rng1 ?_) ?_)
    · repeat (first | refine we_var rfl ?_ | with_reducible refine wa_cons ?_ | with_reducible refine we_if ?_ | with_reducible refine wt_tru ?_)
      refine ⟨_, truT, fun b => ?_, fun b => ?_⟩
      · with_reducible repeat (first | refine we_int ?_ | refine wa_nil ?_)
        refine ⟨_, rfl, by decide, rfl, fun _ => trivial, 4, by decide, fun e => ?_, rfl⟩
        rw [e] at b
        cases b
      · with_reducible repeat (first | refine we_int ?_ | refine wa_nil ?_)
        exact ⟨_, rfl, by decide, rfl, fun _ => trivial, 0, by decide, fun _ => rfl, rfl⟩
    rintro xs G ρ1 ⟨rfl, hG, n, hn4, hn0, rfl⟩
    refine ⟨fun i γ ρ' => ∃ (ds : List D) (v3 v5 v6 : Option AB.A), γ = [some (.m p), some (.d (.tup (names.map D.str))), some (.d (tupD best)), v3, some (.m to), v5, v6, none] ∧ ρ' to = some (.lst (ds.map .d)) ∧ All1 ds ∧ ds.length = 7 + 3 * i ∧ Dr ρ p ρ', ?_, fun _ _ _ _ _ => hG _, ?_, ?_⟩
    · refine ⟨[tupD best, .lst (best.map D.str), .tup (best.map D.str ++ (cutA best none (some 1)).map D.str), .tup (best.map D.str).reverse, .tup (best.map D.str ++ [.str (Str.ofString "nobody")]), .non, .tup (names.map D.str)], _, _, _, rfl, pu_same, ?_, rfl, (Dr.refl hp).new hto htp⟩
      refine .cons (th_strs (by omega)) (.cons (th_lst _) (.cons ?_ (.cons ?_ (.cons ?_ (.cons th_non (.cons (th_strs (l := names) (by omega)) .nil))))))
      · rw [← List.map_append]
        exact th_strs (by rw [List.length_append]; omega)
      · rw [← List.map_reverse]
        exact th_strs (by rw [List.length_reverse]; omega)
      · rw [show best.map D.str ++ [.str (Str.ofString "nobody")] = (best ++ [Str.ofString "nobody"]).map D.str by rw [List.map_append]; rfl]
        exact th_strs (by rw [List.length_append, List.length_singleton]; omega)
    · rintro i y γ ρ' ey ⟨ds, v3, v5, v6, rfl, h1, h2, h3, hD⟩
      obtain ⟨hi, rfl⟩ := rgA_at ey
      have hnn : names ≠ [] := fun e => by have := hn0 e; omega
      have hn1 : 0 < names.length := List.length_pos_iff.mpr hnn
      have hb1 : 0 < best.length := List.length_pos_iff.mpr (hne hnn)
      refine wg_name ?_
      repeat (first | with_reducible refine ws_seq ?_ | with_reducible refine ws_asg ?_ | with_reducible refine we_op ?_ | refine we_var rfl ?_ | with_reducible refine wa_cons ?_ | with_reducible refine wa_nil ?_ | with_reducible refine we_cb ?_ | with_reducible refine we_call ?_ | with_reducible refine on_lenT ?_)
      refine FDraw.of hD.pool (by rw [List.length_map]; omega) (by rw [List.length_map]; omega) fun r1 ρ1 hr0 hr1 hd1 => ?_
      obtain ⟨a, rfl⟩ : ∃ a : Nat, r1 = (a : Int) := ⟨r1.toNat, by omega⟩
      rw [List.length_map] at hr1
      have ha : a < names.length := by omega
      refine o2_ixT (z := .str names[a]) (atI_nat' (by rw [List.getElem?_map, List.getElem?_eq_getElem ha]; rfl)) ?_
      repeat (first | with_reducible refine ws_seq ?_ | with_reducible refine ws_asg ?_ | with_reducible refine wg_name ?_ | refine we_var rfl ?_ | with_reducible refine wa_cons ?_ | with_reducible refine wa_nil ?_ | with_reducible refine we_cb ?_ | with_reducible refine we_call ?_ | with_reducible refine on_lenT ?_)
      refine FDraw.of hd1.at_ (by rw [List.length_map]; omega) (by rw [List.length_map]; omega) fun r2 ρ2 hr2 hr3 hd2 => ?_
      obtain ⟨c, rfl⟩ : ∃ c : Nat, r2 = (c : Int) := ⟨r2.toNat, by omega⟩
      rw [List.length_map] at hr3
      have hc : c < best.length := by omega
      have hd := hd1.trans hd2
      have hD2 := hD.drawn hd
      have h12 : ρ2 to = some (.lst (ds.map .d)) := by rw [hd.ne htp]; exact h1
      with_reducible repeat (first | refine ws_seq ?_ | refine ws_drop ?_ | refine wg_name ?_)
      refine we_bm ?_
      repeat (first | refine we_var rfl ?_)
      refine ⟨ty_lst h12, wa_cons (we_lst ?_)⟩
      repeat (first | with_reducible refine we_op ?_ | refine we_var rfl ?_ | with_reducible refine wa_cons ?_ | with_reducible refine we_sl ?_ | with_reducible refine wo_none ?_ | with_reducible refine wo_some ?_ | refine ⟨_, (rfl : AB.A.d (D.int _) = _), ?_⟩)
      refine o3_tup ?_
      repeat (first | with_reducible refine we_op ?_ | refine we_var rfl ?_ | with_reducible refine we_int ?_ | with_reducible refine we_sl ?_ | with_reducible refine wo_none ?_ | with_reducible refine wo_some ?_ | refine ⟨_, (rfl : AB.A.d (D.int _) = _), ?_⟩ | refine o2_I0 (fun _ => Rep.int _) ?_)
      refine o3_tup ?_
      rw [cutD_map, cutD_map]
      have hl1 := cutA_len best none (some (c : Int))
      have hl2 := cutA_len best (some ((c : Int) + 1)) none
      refine o2_catT (by rw [List.length_map, List.length_map]; omega) ?_
      with_reducible repeat (first | refine we_op ?_ | refine wa_cons ?_ | refine we_cb ?_)
      refine we_lcF (wi_tup ?_)
      repeat (first | refine we_var rfl ?_)
      refine ⟨_, rfl, Str, best, D.str, D.str, fun z => !decide (z = names[a]), rfl, fun _ _ => trivial, by omega, fun n hn ρx sb => ?_, ?_⟩
      · refine wgv_name (by decide) ⟨rfl, ?_⟩
        repeat (first | with_reducible refine we_op ?_ | refine we_var rfl ?_ | with_reducible refine wt_test ?_ | refine ⟨_, (rfl : AB.A.d (D.bl _) = _), ?_⟩ | with_reducible refine o2_neS ?_)
        refine ⟨rfl, rfl, fun _ => ?_⟩
        repeat (first | refine we_var rfl ?_)
        exact ⟨rfl, rfl⟩
      have hl3 := List.length_filter_le (fun z => !decide (z = names[a])) best
      skip
      refine we_lst ?_
      repeat (first | refine we_var rfl ?_ | with_reducible refine wa_cons ?_ | with_reducible refine wa_nil ?_)
      refine ⟨[.str names[a]], rfl, (by show 1 ≤ 100000; decide), ?_⟩
      refine o2_catL lsd lsd (by rw [List.length_map]; show _ + 1 ≤ _; omega) ?_
      rw [show (best.filter fun z => !decide (z = names[a])).map D.str ++ [.str names[a]] = ((best.filter fun z => !decide (z = names[a])) ++ [names[a]]).map D.str by rw [List.map_append]; rfl]
      with_reducible repeat (first | refine wa_nil ?_)
      refine on_sortedSS lsd fun zs hz _ => ?_
      have hl4 := hz.length_eq
      rw [List.length_append, List.length_singleton] at hl4
      with_reducible repeat (first | refine wa_nil ?_)
      refine on_tuple lsd ?_
      with_reducible repeat (first | refine wa_nil ?_)
      refine ⟨[_, _], rfl, (by show 2 ≤ 100000; decide), ?_⟩
      refine wa_nil ?_
      have hdl : (ds.map A.d).length = 7 + 3 * i := by rw [List.length_map]; exact h3
      refine on_extend h12 lsd (by rw [hdl]; show _ + 2 ≤ _; omega) ?_
      with_reducible repeat (first | refine ws_drop ?_)
      refine we_bm ?_
      repeat (first | refine we_var rfl ?_)
      refine ⟨ty_lst pu_same, ?_⟩
      with_reducible repeat (first | refine we_op ?_ | refine wa_cons ?_ | refine we_cb ?_)
      refine we_lcF (wi_tup ?_)
      repeat (first | refine we_var rfl ?_)
      refine ⟨_, rfl, Str, best, D.str, D.str, fun z => !decide (z = best[c]), rfl, fun _ _ => trivial, by omega, fun n hn ρx sb => ?_, ?_⟩
      · refine wgv_name (by decide) ⟨rfl, ?_⟩
        repeat (first | with_reducible refine we_op ?_ | refine we_var rfl ?_ | with_reducible refine wt_test ?_)
        refine o2_ixT (z := .str best[c]) (atI_nat' (by rw [List.getElem?_map, List.getElem?_eq_getElem hc]; rfl)) ?_
        repeat (first | refine ⟨_, (rfl : AB.A.d (D.bl _) = _), ?_⟩ | with_reducible refine o2_neS ?_)
        refine ⟨rfl, rfl, fun _ => ?_⟩
        repeat (first | refine we_var rfl ?_)
        exact ⟨rfl, rfl⟩
      have hl5 := List.length_filter_le (fun z => !decide (z = best[c])) best
      skip
      refine we_lst ?_
      repeat (first | refine we_var rfl ?_ | with_reducible refine wa_cons ?_ | with_reducible refine wa_nil ?_)
      refine ⟨[.str names[a]], rfl, (by show 1 ≤ 100000; decide), ?_⟩
      refine o2_catL lsd lsd (by rw [List.length_map]; show _ + 1 ≤ _; omega) ?_
      rw [show (best.filter fun z => !decide (z = best[c])).map D.str ++ [.str names[a]] = ((best.filter fun z => !decide (z = best[c])) ++ [names[a]]).map D.str by rw [List.map_append]; rfl]
      with_reducible repeat (first | refine wa_nil ?_)
      refine on_sortedSS lsd fun zs2 hz2 _ => ?_
      have hl6 := hz2.length_eq
      rw [List.length_append, List.length_singleton] at hl6
      with_reducible repeat (first | refine wa_nil ?_)
      refine on_tuple lsd ?_
      with_reducible repeat (first | refine wa_nil ?_)
      rw [← List.map_append]
      refine on_append pu_same (by rw [List.length_map, List.length_append]; show _ + 2 < _; omega) ?_
      rw [pu_pu]
      refine ⟨ds ++ [tupD (cutA best none (some (c : Int)) ++ cutA best (some ((c : Int) + 1)) none), tupD zs] ++ [tupD zs2], _, _, _, rfl, by rw [pu_same]; simp only [List.map_append, List.map_cons, List.map_nil, tupD], (h2.app (.cons (th_strs (by rw [List.length_append]; omega)) (.cons (th_strs (by omega)) .nil))).app (.cons (th_strs (by omega)) .nil), by rw [List.length_append, List.length_append, h3]; show _ + 2 + 1 = _; omega, hD2.new hto htp⟩
    · rintro γ ρ' ⟨ds, v3, v5, v6, rfl, h1, h2, h3, hD⟩
      rw [rgA_len] at h3
      refine ws_ret ?_
      repeat (first | with_reducible refine we_op ?_ | refine we_var rfl ?_)
      refine we_lst ?_
      repeat (first | with_reducible refine we_op ?_ | refine we_var rfl ?_ | with_reducible refine we_int ?_ | with_reducible refine wa_cons ?_ | with_reducible refine we_sl ?_ | with_reducible refine wo_none ?_ | with_reducible refine wo_some ?_ | refine ⟨_, (rfl : AB.A.d (D.int _) = _), ?_⟩)
      refine o3_tup ?_
      rw [cutD_map]
      skip
      refine we_tup ?_
      with_reducible repeat (first | refine we_int ?_ | refine wa_cons ?_ | refine wa_nil ?_)
      refine ⟨[.int 0], rfl, (by show 1 ≤ 100000; decide), ?_⟩
      refine o2_catT (by rw [List.length_map]; show _ + 1 ≤ _; omega) ?_
      repeat (first | with_reducible refine we_op ?_ | refine we_var rfl ?_ | with_reducible refine wa_cons ?_)
      refine we_tup (wa_cons (we_lst ?_))
      with_reducible repeat (first | refine we_str ?_ | refine wa_cons ?_ | refine wa_nil ?_)
      refine ⟨[.str (Str.ofString "a")], rfl, (by show 1 ≤ 100000; decide), ?_⟩
      with_reducible repeat (first | refine wa_nil ?_)
      refine ⟨[.lst [.str (Str.ofString "a")]], rfl, (by show 1 ≤ 100000; decide), ?_⟩
      refine o2_catT (by rw [List.length_map]; show _ + 1 ≤ _; omega) ?_
      with_reducible repeat (first | refine wa_nil ?_)
      refine ⟨[_, _], rfl, (by show 2 ≤ 100000; decide), ?_⟩
      refine o2_catL (lsm h1) lsd (by rw [h3]; show _ + 2 ≤ _; omega) ?_
      obtain ⟨ρ2, hs2, hd2⟩ := hD.out
      refine ⟨ρ2, hs2, k _ ρ2 (h2.app (.cons (th_tup ?_ fun x hx => ?_) (.cons (th_tup ?_ fun x hx => ?_) .nil))) (by rw [List.length_append, h3]; show _ + 2 ≤ _; omega) hd2⟩
      · rw [List.length_append, List.length_map]
        show _ + 1 ≤ _
        omega
      · rcases List.mem_append.mp hx with z | z
        · exact strs_plain x z
        · rw [List.mem_singleton.mp z]
          rfl
      · rw [List.length_append, List.length_map]
        show _ + 1 ≤ _
        omega
      · rcases List.mem_append.mp hx with z | z
        · exact strs_plain x z
        · rw [List.mem_singleton.mp z]
          rfl
end
end K82
set_option Elab.async false
set_option linter.all false
set_option maxRecDepth 100000
set_option maxHeartbeats 4000000
namespace K82
open PySem PySem.Spec PyProof.Rows L2 Evl HB AB KX SrtO
section
variable {P : Program} {w : World} {K : PySem.W.Frag} {mg : Str → Option Value} {base : Heap}
def All2 (ds : List D) : Prop := ∀ d, d ∈ ds → Th2 d
theorem All2.app {a b : List D} (h : All2 a) (k : All2 b) : All2 (a ++ b) := fun d hd => (List.mem_append.mp hd).elim (h d) (k d)
theorem All2.cons {x : D} {a : List D} (h : Th2 x) (k : All2 a) : All2 (x :: a) := fun d hd => (List.mem_cons.mp hd).elim (fun e => by rw [e]; exact h) (k d)
theorem All2.nil : All2 [] := fun d h => by simp at h
theorem th2_tup {l : List D} (hz : l.length ≤ 1000) (h : All1 l) : Th2 (.tup l) := ⟨rfl, fun m e => by rw [← D.tup.inj e]; exact ⟨hz, h⟩⟩
theorem th2_lst (l : List D) : Th2 (.lst l) := ⟨rfl, fun m e => by cases e⟩
theorem th2_non : Th2 .non := ⟨rfl, fun m e => by cases e⟩
/-- rows of few names each -/
def Few (n : Nat) (rs : List (List Str)) : Prop := ∀ r, r ∈ rs → r.length ≤ n
theorem Few.app {n : Nat} {a b : List (List Str)} (h : Few n a) (k : Few n b) : Few n (a ++ b) := fun d hd => (List.mem_append.mp hd).elim (h d) (k d)
theorem Few.one {n : Nat} {r : List Str} (h : r.length ≤ n) : Few n [r] := fun d hd => by rw [List.mem_singleton.mp hd]; exact h
theorem Few.sub {n : Nat} {a b : List (List Str)} (h : Few n a) (e : ∀ r, r ∈ b → r ∈ a) : Few n b := fun r hr => h r (e r hr)
theorem Few.le {n m : Nat} {a : List (List Str)} (h : Few n a) (e : n ≤ m) : Few m a := fun r hr => Nat.le_trans (h r hr) e
theorem all1_rows {rs : List (List Str)} (h : Few 1000 rs) : All1 (rs.map tupD) := fun d hd => by
  obtain ⟨r, hr, rfl⟩ := List.mem_map.mp hd
  exact th_strs (h r hr)
theorem th2_rows {rs : List (List Str)} (hz : rs.length ≤ 1000) (h : Few 1000 rs) : Th2 (.tup (rs.map tupD)) := th2_tup (by rw [List.length_map]; exact hz) (all1_rows h)
theorem cutA_mem {α : Type} {l : List α} {a b : Option Int} {x : α} (h : x ∈ cutA l a b) : x ∈ l := List.mem_of_mem_drop (List.mem_of_mem_take h)
theorem tup_cmp (l : List Str) : cmpD (tupD l) = true := cmpDs_all fun d hd => by
  obtain ⟨z, _, rfl⟩ := List.mem_map.mp hd
  rfl
theorem tup_shaped {l : List Str} (h : ∀ z, z ∈ l → PyData.strOk z = true) : SeqAt.shaped (pyD (tupD l)) = true := by
  unfold SeqAt.shaped
  rw [pyD, pyDs_map, PyData.canLay0, PyData.depth, Bool.and_eq_true]
  refine ⟨canLay_all fun d hd => ?_, decide_eq_true ?_⟩
  · obtain ⟨z, hz, rfl⟩ := List.mem_map.mp hd
    rw [pyD, PyData.canLay0]
    exact h z hz
  · have := depth_all (n := 0) (l := l.map fun x => pyD (.str x)) fun d hd => by
      obtain ⟨z, hz, rfl⟩ := List.mem_map.mp hd
      rw [pyD, PyData.depth]
      exact Nat.le_refl _
    omega
/-! ### _law_books -/
abbrev s_law_books : Stmt := topS 33
theorem sc_law_books : FnScope ["pool", "names", "best", "row", "told", "lap", "at", "cut", "rest", "other", "name", "part"] ["pool", "names", "best"] (defScope s_law_books) := ⟨rfl, rfl, rfl, by decide +kernel, rfl, by decide +kernel, by decide +kernel⟩
def FBooks (xs : List AB.A) (ρ : Sto) (R : QA) : Prop := ∃ p names, ∃ rs : List (List Str), xs = [.m p, .d (.tup (names.map D.str)), .d (.tup (rs.map tupD))] ∧ PoolAt ρ p ∧ names.length ≤ 90 ∧ rs.length ≤ 90 ∧ Few 90 rs ∧ (∀ r, r ∈ rs → ∀ z, z ∈ r → PyData.strOk z = true) ∧ (names ≠ [] → rs ≠ []) ∧ ∀ (ds : List D) ρ', All2 ds → ds.length ≤ 100 → Drawn ρ p ρ' → R (.d (.lst ds)) ρ'
theorem ok_books {f : Addr} {fd : FuncData} (F : Fun K "_law_books" "_law_books" s_law_books f fd) (T : Txt9 K mg) : FnOk P w K mg base CX0 2 f fd ["pool", "names", "best"] (spA FBooks) := by
  have G_law_draw : FnOk P w K mg base CX0 1 T.d_law_draw.f T.d_law_draw.fd ["pool", "many"] (spA FDraw) := ok_draw T.d_law_draw.F T.toTz
  refine F.ok sc_law_books (spA_len fun xs ρ R h => ?_) (fun cdv Ar outer s H vs Q E hr h => ?_)
  · obtain ⟨_, _, _, rfl, _⟩ := h
    rfl
  · have hu : _ + 1 < cLine := hu_of hr
    have hu64 : _ + 64 < cLine := hr.units
    refine ⟨_, (pss_cons (ps_set (i := 4) sc_law_books.nd rfl (Or.inl rfl) (pe_lst (pa_cons (pv 2) (pa_cons (pe_lc (own := [("row", 3)]) rfl sc_law_books.nd (pi_tup (pv 2)) (blkOk_by (N := ["pool", "names", "best", "row", "told", "lap", "at", "cut", "rest", "other", "name", "part"]) (sc := defScope s_law_books) (by decide +kernel)) (fun _ _ _ _ _ => (pg_name (i := 3) sc_law_books.nd rfl (Or.inl rfl))) (fun _ _ _ _ _ => pts_nil) (fun _ _ _ _ _ => (pv 3))) (pa_cons (pe_revZ (pv 2)) (pa_cons (pe_slice sl_tupZ (pv 2) (po_some pe_int) po_none) (pa_cons (pe_op op_catZ (pv 2) (pe_slice sl_tupZ (pv 2) po_none (po_some pe_int))) (pa_cons pe_non pa_nil))))))))
  (pss_cons (ps_expr (pe_bm PySem.F.plainAttrs_list PySem.F.slot_list_append PySem.F.type_list_append mt_append (pv 4) (pa_cons (pe_callTy call_tupleZ (by rfl) T.z_tuple bt_tuple (pa_cons (pe_lc (own := [("name", 10)]) rfl sc_law_books.nd (pi_tup (pv 1)) (blkOk_by (N := ["pool", "names", "best", "row", "told", "lap", "at", "cut", "rest", "other", "name", "part"]) (sc := defScope s_law_books) (by decide +kernel)) (fun _ _ _ _ _ => (pg_name (i := 10) sc_law_books.nd rfl (Or.inl rfl))) (fun _ _ _ _ _ => pts_nil) (fun _ _ _ _ _ => (pe_tupZ (pa_cons (pv 10) pa_nil)))) pa_nil)) pa_nil)))
  (pss_cons (ps_for PassesOwn.never rfl (pi_range1 (by rfl) T.z_range (pa_cons (pe_ifExp (pt_truth (pv 1) (fun _ => rfl)) pe_int pe_int) pa_nil)) (pg_name (i := 5) sc_law_books.nd rfl (Or.inl rfl))
  (pss_cons (ps_set (i := 6) sc_law_books.nd rfl (Or.inl rfl) (pe_call G_law_draw (hr.mono (by first | decide | omega)) rfl T.d_law_draw.g T.d_law_draw.k T.d_law_draw.b .nil pass0 (pa_cons (pv 0) (pa_cons (pe_callB call_len_seq (by rfl) T.z_len bt_len (pa_cons (pv 2) pa_nil)) pa_nil))))
  (pss_cons (ps_set (i := 3) sc_law_books.nd rfl (Or.inr rfl) (pe_ix ix_tup (pv 2) (pv 6) (fun _ _ => rfl)))
  (pss_cons (ps_set (i := 7) sc_law_books.nd rfl (Or.inl rfl) (pe_call G_law_draw (hr.mono (by first | decide | omega)) rfl T.d_law_draw.g T.d_law_draw.k T.d_law_draw.b .nil pass0 (pa_cons (pv 0) (pa_cons (pe_op op_add (pe_callB call_len_seq (by rfl) T.z_len bt_len (pa_cons (pv 3) pa_nil)) pe_int) pa_nil))))
  (pss_cons (ps_setLc (own := [("other", 9)]) (i := 8) rfl sc_law_books.nd rfl rfl (sw_true rfl rfl rfl (by decide +kernel)) (pi_tup (pv 2)) (blkOk_by (N := ["pool", "names", "best", "row", "told", "lap", "at", "cut", "rest", "other", "name", "part"]) (sc := defScope s_law_books) (by decide +kernel)) (fun _ _ _ _ _ => (pg_name (i := 9) sc_law_books.nd rfl (Or.inl rfl))) (fun _ _ _ _ _ => (pts_one (pt_cmpR (opR_K (r := rNeD) (K := K) rfl (op_neD hu64)) (pv 9) (pv 3) (nomark _)))) (fun _ _ _ _ _ => (pv 9)))
  (pss_cons (ps_expr (pe_bm PySem.F.plainAttrs_list PySem.F.slot_list_append PySem.F.type_list_append mt_append (pv 4) (pa_cons (pe_callTy call_tupleZ (by rfl) T.z_tuple bt_tuple (pa_cons (pe_callB (cr_sortedTS hu64) (by rfl) T.z_sorted bt_sorted (pa_cons (pe_op op_cat (pv 8) (pe_lc (own := [("part", 11)]) rfl sc_law_books.nd (pi_tup (pe_tupZ (pa_cons (pe_slice sl_tupZ (pv 3) po_none (po_some (pv 7))) (pa_cons (pe_slice sl_tupZ (pv 3) (po_some (pv 7)) po_none) pa_nil)))) (blkOk_by (N := ["pool", "names", "best", "row", "told", "lap", "at", "cut", "rest", "other", "name", "part"]) (sc := defScope s_law_books) (by decide +kernel)) (fun _ _ _ _ _ => (pg_name (i := 11) sc_law_books.nd rfl (Or.inl rfl))) (fun _ _ _ _ _ => (pts_one (pt_truK (K := K) rfl (pt_truth (pv 11) (fun _ => rfl))))) (fun _ _ _ _ _ => (pv 11)))) pa_nil)) pa_nil)) pa_nil)))
  (pss_cons (ps_expr (pe_bm PySem.F.plainAttrs_list PySem.F.slot_list_append PySem.F.type_list_append mt_append (pv 4) (pa_cons (pe_callTy call_tupleZ (by rfl) T.z_tuple bt_tuple (pa_cons (pe_callB (cr_sortedTS hu64) (by rfl) T.z_sorted bt_sorted (pa_cons (pe_op op_cat (pv 8) (pe_lst (pa_cons (pe_revZ (pv 3)) pa_nil))) pa_nil)) pa_nil)) pa_nil)))
  (pss_cons (ps_expr (pe_bm PySem.F.plainAttrs_list PySem.F.slot_list_append PySem.F.type_list_append mt_append (pv 4) (pa_cons (pe_callTy call_tupleZ (by rfl) T.z_tuple bt_tuple (pa_cons (pe_callB (cr_sortedTS hu64) (by rfl) T.z_sorted bt_sorted (pa_cons (pe_op op_cat (pe_slice sl_list (pv 8) (po_some pe_int) po_none) (pe_lc (own := [("part", 11)]) rfl sc_law_books.nd (pi_list (pe_slice sl_list (pv 8) po_none (po_some pe_int))) (blkOk_by (N := ["pool", "names", "best", "row", "told", "lap", "at", "cut", "rest", "other", "name", "part"]) (sc := defScope s_law_books) (by decide +kernel)) (fun _ _ _ _ _ => (pg_name (i := 11) sc_law_books.nd rfl (Or.inl rfl))) (fun _ _ _ _ _ => pts_nil) (fun _ _ _ _ _ => (pe_op (opR_K (r := rCatZ) (K := K) rfl op_catZ) (pv 11) (pv 3))))) pa_nil)) pa_nil)) pa_nil)))
  (pss_cons (ps_expr (pe_bm PySem.F.plainAttrs_list PySem.F.slot_list_append PySem.F.type_list_append mt_append (pv 4) (pa_cons (pe_op op_catZ (pe_op op_catZ (pe_slice sl_tupZ (pv 2) po_none (po_some (pv 6))) (pe_tupZ (pa_cons (pe_lc (own := [("name", 10)]) rfl sc_law_books.nd (pi_tup (pv 3)) (blkOk_by (N := ["pool", "names", "best", "row", "told", "lap", "at", "cut", "rest", "other", "name", "part"]) (sc := defScope s_law_books) (by decide +kernel)) (fun _ _ _ _ _ => (pg_name (i := 10) sc_law_books.nd rfl (Or.inl rfl))) (fun _ _ _ _ _ => pts_nil) (fun _ _ _ _ _ => (pv 10))) pa_nil))) (pe_slice sl_tupZ (pv 2) (po_some (pe_op op_add (pv 6) pe_int)) po_none)) pa_nil)))
  (pss_cons (ps_expr (pe_bm PySem.F.plainAttrs_list PySem.F.slot_list_append PySem.F.type_list_append mt_append (pv 4) (pa_cons (pe_callTy call_tupleZ (by rfl) T.z_tuple bt_tuple (pa_cons (pe_callB (cr_sortedTS hu64) (by rfl) T.z_sorted bt_sorted (pa_cons (pe_op op_cat (pv 8) (pe_lst (pa_cons (pe_op op_catZ (pe_op op_catZ (pe_slice sl_tupZ (pv 3) po_none (po_some (pv 7))) (pe_tupZ (pa_cons (pe_ix ix_tup (pv 1) (pe_call G_law_draw (hr.mono (by first | decide | omega)) rfl T.d_law_draw.g T.d_law_draw.k T.d_law_draw.b .nil pass0 (pa_cons (pv 0) (pa_cons (pe_callB call_len_seq (by rfl) T.z_len bt_len (pa_cons (pv 1) pa_nil)) pa_nil))) (fun _ _ => rfl)) pa_nil))) (pe_slice sl_tupZ (pv 3) (po_some (pe_op op_add (pv 7) pe_int)) po_none)) pa_nil))) pa_nil)) pa_nil)) pa_nil)))
  (pss_one (ps_expr (pe_bm PySem.F.plainAttrs_list PySem.F.slot_list_append PySem.F.type_list_append mt_append (pv 4) (pa_cons (pe_callTy call_tupleZ (by rfl) T.z_tuple bt_tuple (pa_cons (pe_callB (cr_sortedTS hu64) (by rfl) T.z_sorted bt_sorted (pa_cons (pe_op op_cat (pv 8) (pe_lst (pa_cons (pe_op op_catZ (pe_slice sl_tupZ (pv 3) po_none (po_some (pv 7))) (pe_slice sl_tupZ (pv 3) (po_some (pe_op op_add (pv 7) pe_int)) po_none)) pa_nil))) pa_nil)) pa_nil)) pa_nil))))))))))))))
  (pss_one (ps_ret (pe_op op_cat (pv 4) (pe_lst (pa_cons (pe_op op_catZ (pv 2) (pe_tupZ (pa_cons (pe_tupZ pa_nil) pa_nil))) (pa_cons (pe_op op_catZ (pv 2) (pe_tupZ (pa_cons (pe_tupZ (pa_cons pe_str pa_nil)) pa_nil))) pa_nil))))))))), body_of h fun ρ xs R hF => ?_⟩
    obtain ⟨p, names, rs, rfl, hp, hn, hb, hf, hok, hne, k⟩ := hF
    have hf1 : Few 1000 rs := hf.le (by decide)
    with_reducible repeat (first | refine ws_seq ?_ | refine ws_asg ?_)
    refine we_lstM ?_
    repeat (first | refine we_var rfl ?_ | with_reducible refine wa_cons ?_)
    refine we_lcF (wi_tup ?_)
    repeat (first | refine we_var rfl ?_)
    refine ⟨_, rfl, List Str, rs, tupD, tupD, fun _ => true, rfl, fun _ _ => trivial, by omega, fun n hn ρx sb => ?_, ?_⟩
    · refine wgv_name (by decide) ⟨rfl, wt_yes ⟨rfl, rfl, fun _ => ?_⟩⟩
      repeat (first | refine we_var rfl ?_)
      exact ⟨rfl, rfl⟩
    rw [nocut]
    with_reducible repeat (first | refine wa_cons ?_)
    refine we_revT ?_
    repeat (first | refine we_var rfl ?_)
    refine ⟨_, rfl, ?_⟩
    rw [← List.map_reverse]
    repeat (first | refine we_var rfl ?_ | with_reducible refine we_int ?_ | with_reducible refine wa_cons ?_ | with_reducible refine we_sl ?_ | with_reducible refine wo_none ?_ | with_reducible refine wo_some ?_ | refine ⟨_, (rfl : AB.A.d (D.int _) = _), ?_⟩)
    refine o3_tup ?_
    rw [cutD_map]
    repeat (first | with_reducible refine we_op ?_ | refine we_var rfl ?_ | with_reducible refine we_int ?_ | with_reducible refine wa_cons ?_ | with_reducible refine we_sl ?_ | with_reducible refine wo_none ?_ | with_reducible refine wo_some ?_ | refine ⟨_, (rfl : AB.A.d (D.int _) = _), ?_⟩)
    refine o3_tup ?_
    rw [cutD_map]
    have hc1 := cutA_len rs none (some 1)
    have hc2 := cutA_len rs (some 1) none
    refine o2_catT (by rw [List.length_map, List.length_map]; omega) ?_
    rw [← List.map_append]
    with_reducible repeat (first | refine we_non ?_ | refine wa_cons ?_ | refine wa_nil ?_)
    refine ⟨by show 6 ≤ 100000; decide, fun to hto => ?_⟩
    have htp : to ≠ p := fun z => by
      obtain ⟨_, _, _, e⟩ := hp
      rw [z, e] at hto
      cases hto
    with_reducible repeat (first | refine ws_seq ?_ | refine ws_drop ?_ | refine wg_name ?_)
    refine we_bm ?_
    repeat (first | refine we_var rfl ?_)
    refine ⟨ty_lst pu_same, ?_⟩
    with_reducible repeat (first | refine wa_cons ?_ | refine we_cb ?_)
    refine we_lcF (wi_tup ?_)
    repeat (first | refine we_var rfl ?_)
    refine ⟨_, rfl, Str, names, D.str, fun z => tupD [z], fun _ => true, rfl, fun _ _ => trivial, by omega, fun n hn ρx sb => ?_, ?_⟩
    · refine wgv_name (by decide) ⟨rfl, wt_yes ⟨rfl, rfl, fun _ => ?_⟩⟩
      refine we_tup ?_
      repeat (first | refine we_var rfl ?_ | with_reducible refine wa_cons ?_ | with_reducible refine wa_nil ?_)
      exact ⟨[.str n], rfl, (by show 1 ≤ 100000; decide), rfl, rfl⟩
    rw [nocut]
    with_reducible repeat (first | refine wa_nil ?_)
    refine on_tuple lsd ?_
    with_reducible repeat (first | refine wa_nil ?_)
    refine on_append pu_same (by show 6 < 100000; decide) ?_
    rw [pu_pu, show names.map (fun z => tupD [z]) = (names.map fun z => [z]).map tupD by rw [List.map_map]; rfl]
    with_reducible repeat (first | refine ws_seq ?_)
    let L0 : List D := [.tup (rs.map tupD), .lst (rs.map tupD), .tup (rs.reverse.map tupD), .tup ((cutA rs (some 1) none).map tupD), .tup ((rs ++ cutA rs none (some 1)).map tupD), .non, .tup ((names.map fun z => [z]).map tupD)]
    have hL0 : All2 L0 := by
      refine .cons (th2_rows (by omega) hf1) (.cons (th2_lst _) (.cons (th2_rows (by rw [List.length_reverse]; omega) (hf1.sub fun r hr => List.mem_reverse.mp hr)) (.cons (th2_rows (by omega) (hf1.sub fun r hr => cutA_mem hr)) (.cons (th2_rows (by rw [List.length_append]; omega) (hf1.app (hf1.sub fun r hr => cutA_mem hr))) (.cons th2_non (.cons (th2_rows (by rw [List.length_map]; omega) fun r hr => ?_) .nil))))))
      obtain ⟨z, _, rfl⟩ := List.mem_map.mp hr
      show 1 ≤ 1000
      decide
    refine ws_for (WI.mono (Q := fun xs G ρ1 => ρ1 = pu ρ to (.lst (L0.map .d)) ∧ (∀ ρ, G ρ) ∧ ∃ n : Nat, n ≤ 4 ∧ (names = [] → n = 0) ∧ xs = rgA 0 n) (wi_rng1 ?_) ?_)
    · repeat (first | refine we_var rfl ?_ | with_reducible refine wa_cons ?_ | with_reducible refine we_if ?_ | with_reducible refine wt_tru ?_)
      refine ⟨_, truT, fun b => ?_, fun b => ?_⟩
      · with_reducible repeat (first | refine we_int ?_ | refine wa_nil ?_)
        refine ⟨_, rfl, by decide, rfl, fun _ => trivial, 4, by decide, fun e => ?_, rfl⟩
        rw [e] at b
        cases b
      · with_reducible repeat (first | refine we_int ?_ | refine wa_nil ?_)
        exact ⟨_, rfl, by decide, rfl, fun _ => trivial, 0, by decide, fun _ => rfl, rfl⟩
    rintro xs G ρ1 ⟨rfl, hG, n, hn4, hn0, rfl⟩
    refine ⟨fun i γ ρ' => ∃ (ds : List D) (v3 v5 v6 v7 v8 : Option AB.A), γ = [some (.m p), some (.d (.tup (names.map D.str))), some (.d (.tup (rs.map tupD))), v3, some (.m to), v5, v6, v7, v8, none, none, none] ∧ ρ' to = some (.lst (ds.map .d)) ∧ All2 ds ∧ ds.length = 7 + 6 * i ∧ Dr ρ p ρ', ?_, fun _ _ _ _ _ => hG _, ?_, ?_⟩
    · exact ⟨L0, _, _, _, _, _, rfl, pu_same, hL0, rfl, (Dr.refl hp).new hto htp⟩
    · rintro i y γ ρ' ey ⟨ds, v3, v5, v6, v7, v8, rfl, h1, h2, h3, hD⟩
      obtain ⟨hi, rfl⟩ := rgA_at ey
      have hnn : names ≠ [] := fun e => by have := hn0 e; omega
      have hn1 : 0 < names.length := List.length_pos_iff.mpr hnn
      have hb1 : 0 < rs.length := List.length_pos_iff.mpr (hne hnn)
      refine wg_name ?_
      repeat (first | with_reducible refine ws_seq ?_ | with_reducible refine ws_asg ?_ | refine we_var rfl ?_ | with_reducible refine wa_cons ?_ | with_reducible refine wa_nil ?_ | with_reducible refine we_cb ?_ | with_reducible refine we_call ?_ | with_reducible refine on_lenT ?_)
      refine FDraw.of hD.pool (by rw [List.length_map]; omega) (by rw [List.length_map]; omega) fun r1 ρ1 hr0 hr1 hd1 => ?_
      obtain ⟨a, rfl⟩ : ∃ a : Nat, r1 = (a : Int) := ⟨r1.toNat, by omega⟩
      rw [List.length_map] at hr1
      have ha : a < rs.length := by omega
      obtain ⟨row, erow⟩ : ∃ row, rs[a]? = some row := ⟨_, List.getElem?_eq_getElem ha⟩
      have hrow := List.mem_of_getElem? erow
      have hrl := hf row hrow
      repeat (first | with_reducible refine ws_seq ?_ | with_reducible refine ws_asg ?_ | with_reducible refine wg_name ?_ | with_reducible refine we_op ?_ | refine we_var rfl ?_)
      refine o2_ixT (z := tupD row) (atI_nat' (by rw [List.getElem?_map, erow]; rfl)) ?_
      repeat (first | with_reducible refine ws_seq ?_ | with_reducible refine ws_asg ?_ | with_reducible refine wg_name ?_ | with_reducible refine we_op ?_ | refine we_var rfl ?_ | with_reducible refine we_int ?_ | with_reducible refine wa_cons ?_ | with_reducible refine wa_nil ?_ | with_reducible refine we_cb ?_ | with_reducible refine we_call ?_ | refine o2_I0 (fun _ => Rep.int _) ?_ | with_reducible refine on_lenT ?_)
      refine FDraw.of hd1.at_ (by rw [List.length_map]; omega) (by rw [List.length_map]; omega) fun r2 ρ2 hr2 hr3 hd2 => ?_
      obtain ⟨c, rfl⟩ : ∃ c : Nat, r2 = (c : Int) := ⟨r2.toNat, by omega⟩
      rw [List.length_map] at hr3
      have hd := hd1.trans hd2
      have hD2 := hD.drawn hd
      have h12 : ρ2 to = some (.lst (ds.map .d)) := by rw [hd.ne htp]; exact h1
      let cc : List Str → Bool := fun r => !PyData.eqv (pyD (tupD r)) (pyD (tupD row))
      with_reducible repeat (first | refine ws_seq ?_ | refine ws_asg ?_ | refine wg_name ?_)
      refine we_lcF (wi_tup ?_)
      repeat (first | refine we_var rfl ?_)
      refine ⟨_, rfl, List Str, rs, tupD, tupD, cc, rfl, fun _ _ => trivial, by omega, fun n hn ρx sb => ?_, ?_⟩
      · refine wgv_name (by decide) ⟨rfl, wt_test (we_op ?_)⟩
        repeat (first | refine we_var rfl ?_)
        refine o2_neDD (tup_cmp _) (tup_cmp _) (tup_shaped (hok n hn)) (tup_shaped (hok row hrow)) ?_
        refine ⟨_, rfl, rfl, rfl, fun _ => ?_⟩
        repeat (first | refine we_var rfl ?_)
        exact ⟨rfl, rfl⟩
      let rest : List (List Str) := rs.filter cc
      have hrestl : rest.length ≤ 90 := Nat.le_trans (List.length_filter_le _ _) hb
      have hrestf : Few 90 rest := hf.sub fun r hr => (List.mem_filter.mp hr).1
      have hrest1 : Few 1000 rest := hrestf.le (by decide)
      have s1 := cutA_len row none (some (c : Int))
      have s2 := cutA_len row (some (c : Int)) none
      have s3 := cutA_len row (some ((c : Int) + 1)) none
      -- the row parted
      with_reducible repeat (first | refine ws_seq ?_ | refine ws_drop ?_ | refine wg_name ?_)
      refine we_bm ?_
      repeat (first | refine we_var rfl ?_)
      refine ⟨ty_lst h12, ?_⟩
      repeat (first | with_reducible refine we_op ?_ | refine we_var rfl ?_ | with_reducible refine wa_cons ?_ | with_reducible refine we_cb ?_)
      refine we_lcF (wi_tup (we_tup ?_))
      repeat (first | refine we_var rfl ?_ | with_reducible refine wa_cons ?_ | with_reducible refine we_sl ?_ | with_reducible refine wo_none ?_ | with_reducible refine wo_some ?_ | refine ⟨_, (rfl : AB.A.d (D.int _) = _), ?_⟩)
      refine o3_tup ?_
      repeat (first | refine we_var rfl ?_ | with_reducible refine wa_cons ?_ | with_reducible refine we_sl ?_ | with_reducible refine wo_none ?_ | with_reducible refine wo_some ?_ | refine ⟨_, (rfl : AB.A.d (D.int _) = _), ?_⟩)
      refine o3_tup ?_
      rw [cutD_map, cutD_map]
      with_reducible repeat (first | refine wa_nil ?_)
      refine ⟨[tupD (cutA row none (some (c : Int))), tupD (cutA row (some (c : Int)) none)], rfl, (by show 2 ≤ 100000; decide), ?_⟩
      refine ⟨_, rfl, List Str, [cutA row none (some (c : Int)), cutA row (some (c : Int)) none], tupD, tupD, fun r => !(r.map D.str).isEmpty, rfl, fun _ _ => trivial, (by show 2 ≤ 50000; decide), fun n hn ρx sb => ?_, ?_⟩
      · refine wgv_name (by decide) ⟨rfl, ?_⟩
        repeat (first | refine we_var rfl ?_ | with_reducible refine wt_tru ?_)
        refine ⟨_, truT, rfl, rfl, fun _ => ?_⟩
        repeat (first | refine we_var rfl ?_)
        exact ⟨rfl, rfl⟩
      let parts : List (List Str) := [cutA row none (some (c : Int)), cutA row (some (c : Int)) none].filter fun r => !(r.map D.str).isEmpty
      have hpl : parts.length ≤ 2 := List.length_filter_le _ _
      have hpf : Few 1000 parts := fun r hr => by
        have := (List.mem_filter.mp hr).1
        rcases List.mem_cons.mp this with e | e
        · rw [e]
          omega
        · rw [List.mem_singleton.mp e]
          omega
      refine o2_catL lsd lsd (by rw [List.length_map, List.length_map]; show rest.length + parts.length ≤ _; omega) ?_
      rw [show (rs.filter cc).map tupD ++ parts.map tupD = (rest ++ parts).map tupD by rw [List.map_append]]
      with_reducible repeat (first | refine wa_nil ?_)
      refine on_sortedTS lsd fun t1 hp1 _ => ?_
      with_reducible repeat (first | refine wa_nil ?_)
      refine on_tuple lsd ?_
      with_reducible repeat (first | refine wa_nil ?_)
      have hdl : (ds.map A.d).length = 7 + 6 * i := by rw [List.length_map]; exact h3
      refine on_append h12 (by rw [hdl]; omega) ?_
      have T1 : Th2 (.tup (t1.map tupD)) := th2_rows (by have := hp1.length_eq; rw [List.length_append] at this; omega) ((hrest1.app hpf).sub fun r hr => hp1.mem_iff.mp hr)
      -- the row turned
      with_reducible repeat (first | refine ws_seq ?_ | refine ws_drop ?_)
      refine we_bm ?_
      repeat (first | refine we_var rfl ?_)
      refine ⟨ty_lst pu_same, ?_⟩
      repeat (first | with_reducible refine we_op ?_ | refine we_var rfl ?_ | with_reducible refine wa_cons ?_ | with_reducible refine we_cb ?_)
      refine we_lst (wa_cons (we_revT ?_))
      repeat (first | refine we_var rfl ?_)
      refine ⟨_, rfl, ?_⟩
      rw [← List.map_reverse]
      with_reducible repeat (first | refine wa_nil ?_)
      refine ⟨[tupD row.reverse], rfl, (by show 1 ≤ 100000; decide), ?_⟩
      refine o2_catL lsd lsd (by rw [List.length_map]; show rest.length + 1 ≤ _; omega) ?_
      rw [show (rs.filter cc).map tupD ++ [tupD row.reverse] = (rest ++ [row.reverse]).map tupD by rw [List.map_append]; rfl]
      with_reducible repeat (first | refine wa_nil ?_)
      refine on_sortedTS lsd fun t2 hp2 _ => ?_
      with_reducible repeat (first | refine wa_nil ?_)
      refine on_tuple lsd ?_
      with_reducible repeat (first | refine wa_nil ?_)
      refine on_append pu_same (by rw [List.length_append, hdl]; show _ + 1 < _; omega) ?_
      have T2 : Th2 (.tup (t2.map tupD)) := th2_rows (by have := hp2.length_eq; rw [List.length_append, List.length_singleton] at this; omega) ((hrest1.app (Few.one (by rw [List.length_reverse]; omega))).sub fun r hr => hp2.mem_iff.mp hr)
      rw [pu_pu]
      -- two rows joined
      with_reducible repeat (first | refine ws_seq ?_ | refine ws_drop ?_)
      refine we_bm ?_
      repeat (first | refine we_var rfl ?_)
      refine ⟨ty_lst pu_same, ?_⟩
      repeat (first | with_reducible refine we_op ?_ | refine we_var rfl ?_ | with_reducible refine we_int ?_ | with_reducible refine wa_cons ?_ | with_reducible refine we_cb ?_ | with_reducible refine we_sl ?_ | with_reducible refine wo_none ?_ | with_reducible refine wo_some ?_ | refine ⟨_, (rfl : AB.A.d (D.int _) = _), ?_⟩)
      refine o3_lst lsd ?_
      rw [show (rs.filter cc) = rest from rfl, cutD_map]
      skip
      refine we_lcF (wi_list (we_sl ?_))
      repeat (first | refine we_var rfl ?_ | with_reducible refine we_int ?_ | with_reducible refine wo_none ?_ | with_reducible refine wo_some ?_ | refine ⟨_, (rfl : AB.A.d (D.int _) = _), ?_⟩)
      refine o3_lst lsd ?_
      rw [cutD_map]
      have q1 := cutA_len rest (some 1) none
      have q2 := cutA_len rest none (some 1)
      refine ⟨_, lsd, List Str, cutA rest none (some 1), tupD, fun r => tupD (r ++ row), fun _ => true, rfl, fun _ _ => lsd, by omega, fun n hn ρx sb => ?_, ?_⟩
      · refine wgv_name (by decide) ⟨rfl, wt_yes ⟨rfl, rfl, fun _ => ?_⟩⟩
        repeat (first | with_reducible refine we_op ?_ | refine we_var rfl ?_)
        have := hrestf n (cutA_mem hn)
        refine o2_catT (by rw [List.length_map, List.length_map]; omega) ?_
        rw [← List.map_append]
        exact ⟨rfl, rfl⟩
      rw [nocut]
      refine o2_catL lsd lsd (by rw [List.length_map, List.length_map]; omega) ?_
      rw [show (cutA rest (some 1) none).map tupD ++ (cutA rest none (some 1)).map (fun r => tupD (r ++ row)) = (cutA rest (some 1) none ++ (cutA rest none (some 1)).map (fun r => r ++ row)).map tupD by rw [List.map_append, List.map_map]; rfl]
      with_reducible repeat (first | refine wa_nil ?_)
      refine on_sortedTS lsd fun t3 hp3 _ => ?_
      with_reducible repeat (first | refine wa_nil ?_)
      refine on_tuple lsd ?_
      with_reducible repeat (first | refine wa_nil ?_)
      refine on_append pu_same (by rw [List.length_append, List.length_append, hdl]; show _ + 1 + 1 < _; omega) ?_
      have T3 : Th2 (.tup (t3.map tupD)) := th2_rows (by have := hp3.length_eq; rw [List.length_append, List.length_map] at this; omega) (((hrest1.sub fun r hr => cutA_mem hr).app fun r hr => by
        obtain ⟨q, hq, rfl⟩ := List.mem_map.mp hr
        have := hrestf q (cutA_mem hq)
        rw [List.length_append]
        omega).sub fun r hr => hp3.mem_iff.mp hr)
      rw [pu_pu]
      -- a row that is a list
      with_reducible repeat (first | refine ws_seq ?_ | refine ws_drop ?_)
      refine we_bm ?_
      repeat (first | refine we_var rfl ?_)
      refine ⟨ty_lst pu_same, ?_⟩
      repeat (first | with_reducible refine we_op ?_ | refine we_var rfl ?_ | with_reducible refine wa_cons ?_ | with_reducible refine we_sl ?_ | with_reducible refine wo_none ?_ | with_reducible refine wo_some ?_ | refine ⟨_, (rfl : AB.A.d (D.int _) = _), ?_⟩)
      refine o3_tup ?_
      rw [cutD_map]
      skip
      refine we_tup (wa_cons (we_lcF (wi_tup ?_)))
      repeat (first | refine we_var rfl ?_)
      refine ⟨_, rfl, Str, row, D.str, D.str, fun _ => true, rfl, fun _ _ => trivial, by omega, fun n hn ρx sb => ?_, ?_⟩
      · refine wgv_name (by decide) ⟨rfl, wt_yes ⟨rfl, rfl, fun _ => ?_⟩⟩
        repeat (first | refine we_var rfl ?_)
        exact ⟨rfl, rfl⟩
      rw [nocut]
      with_reducible repeat (first | refine wa_nil ?_)
      refine ⟨[.lst (row.map D.str)], rfl, (by show 1 ≤ 100000; decide), ?_⟩
      have w1 := cutA_len rs none (some (a : Int))
      have w2 := cutA_len rs (some ((a : Int) + 1)) none
      refine o2_catT (by rw [List.length_map]; show _ + 1 ≤ _; omega) ?_
      repeat (first | with_reducible refine we_op ?_ | refine we_var rfl ?_ | with_reducible refine we_int ?_ | with_reducible refine we_sl ?_ | with_reducible refine wo_none ?_ | with_reducible refine wo_some ?_ | refine ⟨_, (rfl : AB.A.d (D.int _) = _), ?_⟩ | refine o2_I0 (fun _ => Rep.int _) ?_)
      refine o3_tup ?_
      rw [cutD_map]
      refine o2_catT (by rw [List.length_append, List.length_map, List.length_map]; show _ + 1 + _ ≤ _; omega) ?_
      with_reducible repeat (first | refine wa_nil ?_)
      refine on_append pu_same (by rw [List.length_append, List.length_append, List.length_append, hdl]; show _ + 1 + 1 + 1 < _; omega) ?_
      have T4 : Th2 (.tup ((cutA rs none (some (a : Int))).map tupD ++ [.lst (row.map D.str)] ++ (cutA rs (some ((a : Int) + 1)) none).map tupD)) := by
        refine th2_tup (by rw [List.length_append, List.length_append, List.length_map, List.length_map]; show _ + 1 + _ ≤ _; omega) (((all1_rows (hf1.sub fun r hr => cutA_mem hr)).app (.cons (th_lst _) .nil)).app (all1_rows (hf1.sub fun r hr => cutA_mem hr)))
      rw [pu_pu]
      -- another name in it
      with_reducible repeat (first | refine ws_seq ?_ | refine ws_drop ?_)
      refine we_bm ?_
      repeat (first | refine we_var rfl ?_)
      refine ⟨ty_lst pu_same, ?_⟩
      repeat (first | with_reducible refine we_op ?_ | refine we_var rfl ?_ | with_reducible refine wa_cons ?_ | with_reducible refine we_cb ?_)
      refine we_lst ?_
      repeat (first | with_reducible refine we_op ?_ | refine we_var rfl ?_ | with_reducible refine wa_cons ?_ | with_reducible refine we_sl ?_ | with_reducible refine wo_none ?_ | with_reducible refine wo_some ?_ | refine ⟨_, (rfl : AB.A.d (D.int _) = _), ?_⟩)
      refine o3_tup ?_
      rw [cutD_map]
      skip
      refine we_tup ?_
      repeat (first | with_reducible refine we_op ?_ | refine we_var rfl ?_ | with_reducible refine wa_cons ?_ | with_reducible refine wa_nil ?_ | with_reducible refine we_cb ?_ | with_reducible refine we_call ?_ | with_reducible refine on_lenT ?_)
      have hDp : Dr ρ p (pu ρ2 to (.lst (ds.map AB.A.d ++ [AB.A.d (.tup (t1.map tupD))] ++ [AB.A.d (.tup (t2.map tupD))] ++ [AB.A.d (.tup (t3.map tupD))] ++ [AB.A.d (.tup ((cutA rs none (some (a : Int))).map tupD ++ [.lst (row.map D.str)] ++ (cutA rs (some ((a : Int) + 1)) none).map tupD))]))) := hD2.new hto htp
      refine FDraw.of hDp.pool (by rw [List.length_map]; omega) (by rw [List.length_map]; omega) fun r5 ρ5 hr6 hr7 hd5 => ?_
      obtain ⟨b, rfl⟩ : ∃ b : Nat, r5 = (b : Int) := ⟨r5.toNat, by omega⟩
      rw [List.length_map] at hr7
      have hbn : b < names.length := by omega
      refine o2_ixT (z := .str names[b]) (atI_nat' (by rw [List.getElem?_map, List.getElem?_eq_getElem hbn]; rfl)) ?_
      with_reducible repeat (first | refine wa_nil ?_)
      refine ⟨[.str names[b]], rfl, (by show 1 ≤ 100000; decide), ?_⟩
      refine o2_catT (by rw [List.length_map]; show _ + 1 ≤ _; omega) ?_
      repeat (first | with_reducible refine we_op ?_ | refine we_var rfl ?_ | with_reducible refine we_int ?_ | with_reducible refine we_sl ?_ | with_reducible refine wo_none ?_ | with_reducible refine wo_some ?_ | refine ⟨_, (rfl : AB.A.d (D.int _) = _), ?_⟩ | refine o2_I0 (fun _ => Rep.int _) ?_)
      refine o3_tup ?_
      rw [cutD_map]
      refine o2_catT (by rw [List.length_append, List.length_map, List.length_map]; show _ + 1 + _ ≤ _; omega) ?_
      rw [show (cutA row none (some (c : Int))).map D.str ++ [.str names[b]] ++ (cutA row (some ((c : Int) + 1)) none).map D.str = (cutA row none (some (c : Int)) ++ [names[b]] ++ cutA row (some ((c : Int) + 1)) none).map D.str by rw [List.map_append, List.map_append]; rfl]
      with_reducible repeat (first | refine wa_nil ?_)
      refine ⟨[tupD (cutA row none (some (c : Int)) ++ [names[b]] ++ cutA row (some ((c : Int) + 1)) none)], rfl, (by show 1 ≤ 100000; decide), ?_⟩
      refine o2_catL lsd lsd (by rw [List.length_map]; show rest.length + 1 ≤ _; omega) ?_
      rw [show (rest).map tupD ++ [tupD (cutA row none (some (c : Int)) ++ [names[b]] ++ cutA row (some ((c : Int) + 1)) none)] = (rest ++ [cutA row none (some (c : Int)) ++ [names[b]] ++ cutA row (some ((c : Int) + 1)) none]).map tupD by rw [List.map_append]; rfl]
      with_reducible repeat (first | refine wa_nil ?_)
      refine on_sortedTS lsd fun t5 hp5 _ => ?_
      with_reducible repeat (first | refine wa_nil ?_)
      refine on_tuple lsd ?_
      with_reducible repeat (first | refine wa_nil ?_)
      have h15 : ρ5 to = some (.lst (ds.map AB.A.d ++ [AB.A.d (.tup (t1.map tupD))] ++ [AB.A.d (.tup (t2.map tupD))] ++ [AB.A.d (.tup (t3.map tupD))] ++ [AB.A.d (.tup ((cutA rs none (some (a : Int))).map tupD ++ [.lst (row.map D.str)] ++ (cutA rs (some ((a : Int) + 1)) none).map tupD))])) := by rw [hd5.ne htp, pu_same]
      have hD5 := hDp.drawn hd5
      refine on_append h15 (by rw [List.length_append, List.length_append, List.length_append, List.length_append, hdl]; show _ + 1 + 1 + 1 + 1 < _; omega) ?_
      have T5 : Th2 (.tup (t5.map tupD)) := th2_rows (by have := hp5.length_eq; rw [List.length_append, List.length_singleton] at this; omega) ((hrest1.app (Few.one (by rw [List.length_append, List.length_append, List.length_singleton]; omega))).sub fun r hr => hp5.mem_iff.mp hr)
      -- a name less
      with_reducible repeat (first | refine ws_drop ?_)
      refine we_bm ?_
      repeat (first | refine we_var rfl ?_)
      refine ⟨ty_lst pu_same, ?_⟩
      repeat (first | with_reducible refine we_op ?_ | refine we_var rfl ?_ | with_reducible refine wa_cons ?_ | with_reducible refine we_cb ?_)
      refine we_lst (wa_cons (we_op (we_sl ?_)))
      repeat (first | refine we_var rfl ?_ | with_reducible refine wo_none ?_ | with_reducible refine wo_some ?_ | refine ⟨_, (rfl : AB.A.d (D.int _) = _), ?_⟩)
      refine o3_tup ?_
      rw [cutD_map]
      repeat (first | with_reducible refine we_op ?_ | refine we_var rfl ?_ | with_reducible refine we_int ?_ | with_reducible refine we_sl ?_ | with_reducible refine wo_none ?_ | with_reducible refine wo_some ?_ | refine ⟨_, (rfl : AB.A.d (D.int _) = _), ?_⟩ | refine o2_I0 (fun _ => Rep.int _) ?_)
      refine o3_tup ?_
      rw [cutD_map]
      refine o2_catT (by rw [List.length_map, List.length_map]; omega) ?_
      rw [← List.map_append]
      with_reducible repeat (first | refine wa_nil ?_)
      refine ⟨[tupD (cutA row none (some (c : Int)) ++ cutA row (some ((c : Int) + 1)) none)], rfl, (by show 1 ≤ 100000; decide), ?_⟩
      refine o2_catL lsd lsd (by rw [List.length_map]; show rest.length + 1 ≤ _; omega) ?_
      rw [show (rest).map tupD ++ [tupD (cutA row none (some (c : Int)) ++ cutA row (some ((c : Int) + 1)) none)] = (rest ++ [cutA row none (some (c : Int)) ++ cutA row (some ((c : Int) + 1)) none]).map tupD by rw [List.map_append]; rfl]
      with_reducible repeat (first | refine wa_nil ?_)
      refine on_sortedTS lsd fun t6 hp6 _ => ?_
      with_reducible repeat (first | refine wa_nil ?_)
      refine on_tuple lsd ?_
      with_reducible repeat (first | refine wa_nil ?_)
      refine on_append pu_same (by rw [List.length_append, List.length_append, List.length_append, List.length_append, List.length_append, hdl]; show _ + 1 + 1 + 1 + 1 + 1 < _; omega) ?_
      have T6 : Th2 (.tup (t6.map tupD)) := th2_rows (by have := hp6.length_eq; rw [List.length_append, List.length_singleton] at this; omega) ((hrest1.app (Few.one (by rw [List.length_append]; omega))).sub fun r hr => hp6.mem_iff.mp hr)
      rw [pu_pu]
      refine ⟨ds ++ [.tup (t1.map tupD), .tup (t2.map tupD), .tup (t3.map tupD), .tup ((cutA rs none (some (a : Int))).map tupD ++ [.lst (row.map D.str)] ++ (cutA rs (some ((a : Int) + 1)) none).map tupD), .tup (t5.map tupD), .tup (t6.map tupD)], _, _, _, _, _, rfl, ?_, h2.app (.cons T1 (.cons T2 (.cons T3 (.cons T4 (.cons T5 (.cons T6 .nil)))))), by rw [List.length_append, h3]; show _ + 6 = _; omega, hD5.new hto htp⟩
      rw [pu_same]
      simp only [List.map_append, List.map_cons, List.map_nil, List.append_assoc, List.cons_append, List.nil_append]
    · rintro γ ρ' ⟨ds, v3, v5, v6, v7, v8, rfl, h1, h2, h3, hD⟩
      rw [rgA_len] at h3
      refine ws_ret ?_
      repeat (first | with_reducible refine we_op ?_ | refine we_var rfl ?_)
      refine we_lst (wa_cons (we_op ?_))
      repeat (first | refine we_var rfl ?_)
      refine we_tup (wa_cons (we_tup ?_))
      with_reducible repeat (first | refine wa_nil ?_)
      refine ⟨[], rfl, (by show 0 ≤ 100000; decide), ?_⟩
      with_reducible repeat (first | refine wa_nil ?_)
      refine ⟨[.tup []], rfl, (by show 1 ≤ 100000; decide), ?_⟩
      refine o2_catT (by rw [List.length_map]; show _ + 1 ≤ _; omega) ?_
      repeat (first | with_reducible refine we_op ?_ | refine we_var rfl ?_ | with_reducible refine wa_cons ?_)
      refine we_tup (wa_cons (we_tup ?_))
      with_reducible repeat (first | refine we_str ?_ | refine wa_cons ?_ | refine wa_nil ?_)
      refine ⟨[.str (Str.ofString "nobody")], rfl, (by show 1 ≤ 100000; decide), ?_⟩
      with_reducible repeat (first | refine wa_nil ?_)
      refine ⟨[.tup [.str (Str.ofString "nobody")]], rfl, (by show 1 ≤ 100000; decide), ?_⟩
      refine o2_catT (by rw [List.length_map]; show _ + 1 ≤ _; omega) ?_
      with_reducible repeat (first | refine wa_nil ?_)
      refine ⟨[_, _], rfl, (by show 2 ≤ 100000; decide), ?_⟩
      refine o2_catL (lsm h1) lsd (by rw [h3]; show _ + 2 ≤ _; omega) ?_
      obtain ⟨ρ2, hs2, hd2⟩ := hD.out
      refine ⟨ρ2, hs2, k _ ρ2 (h2.app (.cons ?_ (.cons ?_ .nil))) (by rw [List.length_append, h3]; show _ + 2 ≤ _; omega) hd2⟩
      · exact th2_tup (by rw [List.length_append, List.length_map]; show _ + 1 ≤ _; omega) ((all1_rows hf1).app (.cons (th_tup (by decide) fun x hx => by simp at hx) .nil))
      · exact th2_tup (by rw [List.length_append, List.length_map]; show _ + 1 ≤ _; omega) ((all1_rows hf1).app (.cons (th_tup (by decide) fun x hx => by rw [List.mem_singleton.mp hx]; rfl) .nil))
end
end K82
set_option Elab.async false
set_option linter.all false
set_option maxRecDepth 100000
set_option maxHeartbeats 4000000
namespace K82
open PySem PySem.Spec PyProof.Rows L2 Evl HB AB KX SrtO
structure TxtB (K : PySem.W.Frag) (mg : Str → Option Value) extends TxtA K mg where
  d_law_pool : Fd K mg "_law_pool" s_law_pool ["script"]
  d_law_named : Fd K mg "_law_named" s_law_named ["pool", "many"]
  d_law_order : Fd K mg "_law_order" s_law_order ["pool", "many"]
  d_law_ahead : Fd K mg "_law_ahead" s_law_ahead ["names", "ties"]
  d_law_matched : Fd K mg "_law_matched" s_law_matched ["names", "ahead"]
  d_law_rows : Fd K mg "_law_rows" s_law_rows ["names", "taken"]
  d_law_widest : Fd K mg "_law_widest" s_law_widest ["names", "ahead", "taken"]
  d_law_said : Fd K mg "_law_said" s_law_said ["bare", "ahead", "many", "thing", "rows"]
  d_law_sets : Fd K mg "_law_sets" s_law_sets ["pool", "names", "best"]
  d_law_books : Fd K mg "_law_books" s_law_books ["pool", "names", "best"]
  dcovering_of : Fd K mg "covering_of" scovering_of ["bare"]
section
variable {P : Program} {w : World} {K : PySem.W.Frag} {mg : Str → Option Value} {base : Heap}
/-! ### the four bare lists -/
theorem idx_at {l : List Str} (nd : l.Nodup) {i : Nat} {x : Str} (e : l[i]? = some x) : l.findIdx (fun y => y == x) = i := by
  obtain ⟨hi, ei⟩ := List.getElem?_eq_some_iff.mp e
  rw [List.findIdx_eq hi]
  refine ⟨by rw [ei]; exact beq_self_eq_true x, fun j hj => ?_⟩
  rw [beq_eq_false_iff_ne]
  intro h
  have := KN.nodup_at nd (i := j) (j := i) (x := x) (by rw [List.getElem?_eq_getElem (Nat.lt_trans hj hi), h]) e
  omega
theorem Bare.of {names ord : List Str} {ps : List (Str × Str)} (ha : ascL ltStr names = true) (hz : names.length ≤ 90) (ht : ps.length ≤ 200) (hw : ∀ x, x ∈ names → Word x) (ho : ord.Nodup) (hm : ∀ x, x ∈ ord → x ∈ names)
    (hp : ∀ p, p ∈ ps → ∃ i j : Nat, i < j ∧ ord[i]? = some p.1 ∧ ord[j]? = some p.2) : Bare names ps := by
  refine ⟨⟨asc_nd (lt := ltStr) ltStr_trans ltStr_ir ha, by omega, by unfold one3; rw [List.length_map]; omega, fun t h => ?_, fun x => ord.findIdx (fun y => y == x), fun t h => ?_⟩, hz, ht, ha, fun x hx => (hw x hx).ok, fun x hx e => ?_⟩
  · unfold one3 at h
    obtain ⟨p, hp', rfl⟩ := List.mem_map.mp h
    obtain ⟨i, j, _, e1, e2⟩ := hp p hp'
    exact ⟨hm _ (List.mem_of_getElem? e1), hm _ (List.mem_of_getElem? e2)⟩
  · unfold one3 at h
    obtain ⟨p, hp', rfl⟩ := List.mem_map.mp h
    obtain ⟨i, j, hij, e1, e2⟩ := hp p hp'
    show ord.findIdx (fun y => y == p.1) < ord.findIdx (fun y => y == p.2)
    rw [idx_at ho e1, idx_at ho e2]
    exact hij
  · have := (hw x hx).ne
    rw [e] at this
    exact this rfl
def toPair (z : List Str) : Str × Str := (z.getD 0 Str.empty, z.getD 1 Str.empty)
/-- sorted pairs are pairs -/
theorem pairs_back {L : List (Str × Str)} {zss : List (List Str)} (h : zss.Perm (L.map fun p => [p.1, p.2])) : ∃ ps : List (Str × Str), ps.Perm L ∧ zss.map ptupD = ps.map pairD := by
  refine ⟨zss.map toPair, ?_, ?_⟩
  · have := h.map toPair
    rw [List.map_map] at this
    refine this.trans (List.Perm.of_eq ?_)
    exact (List.map_congr_left fun p _ => rfl).trans (List.map_id L)
  · rw [List.map_map]
    refine List.map_congr_left fun z hz => ?_
    obtain ⟨p, _, rfl⟩ := List.mem_map.mp (h.mem_iff.mp hz)
    rfl
theorem asc_take {l : List Str} (n : Nat) (h : ascL ltStr l = true) : ascL ltStr (l.take n) = true := (asc_pw (lt := ltStr) ltStr_trans).mpr (((asc_pw (lt := ltStr) ltStr_trans).mp h).sublist (List.take_sublist n l))
theorem asc_of_sorted {l zs : List Str} (hp : zs.Perm l) (hs : Srtd ltStr zs) (nd : l.Nodup) : ascL ltStr zs = true := asc_of tri_str hs (hp.nodup_iff.mpr nd)
/-- rows of names that are sorted are strictly ascending -/
theorem tri_row : ∀ x y : List Str, ltS x y = false → ltS y x = false → x = y := fun x y h k => ltS_tri h k
theorem rows_nd : ∀ {rs : List (List Str)}, (∀ r, r ∈ rs → r ≠ []) → rs.flatten.Nodup → rs.Nodup
  | [], _, _ => by simp
  | r :: rs, h, nd => by
    rw [List.flatten_cons, List.nodup_append] at nd
    refine List.nodup_cons.mpr ⟨fun m => ?_, rows_nd (fun q hq => h q (List.mem_cons_of_mem _ hq)) nd.2.1⟩
    obtain ⟨x, hx⟩ := List.exists_mem_of_ne_nil r (h r List.mem_cons_self)
    exact nd.2.2 x hx x (List.mem_flatten.mpr ⟨r, m, hx⟩) rfl
theorem cover_asc {names : List Str} {S : Str → Str → Prop} {rs : List (List Str)} (nd : names.Nodup) (h : Cover names S rs) (hs : Srtd ltS rs) : ascL ltS rs = true :=
  asc_of tri_row hs (rows_nd h.ne (h.perm.nodup_iff.mpr nd))
/-- the names along an order -/
def along (names : List Str) (os : List Nat) : List Str := os.map fun i => names.getD i Str.empty
theorem getD_at {names : List Str} {i : Nat} (h : i < names.length) : names[i]? = some (names.getD i Str.empty) := by
  rw [List.getD_eq_getElem?_getD, List.getElem?_eq_getElem h]
  rfl
theorem along_perm {names : List Str} {os : List Nat} (h : os.Perm (List.range names.length)) : (along names os).Perm names := by
  refine (h.map _).trans (List.Perm.of_eq ?_)
  refine List.ext_getElem? fun i => ?_
  rw [List.getElem?_map]
  rcases Nat.lt_or_ge i names.length with c | c
  · rw [List.getElem?_range c]
    exact (getD_at c).symm
  · rw [List.getElem?_eq_none (by rw [List.length_range]; exact c), List.getElem?_eq_none c]
    rfl
theorem along_at {names : List Str} {os : List Nat} (h : os.Perm (List.range names.length)) {j : Nat} (hj : j < names.length) : ∃ (i : Nat) (x : Str), os[j]? = some i ∧ names[i]? = some x ∧ (along names os)[j]? = some x := by
  have hl : os.length = names.length := by have := h.length_eq; rwa [List.length_range] at this
  have e : os[j]? = some (os[j]'(by omega)) := List.getElem?_eq_getElem (by omega)
  have hi : os[j]'(by omega) < names.length := List.mem_range.mp (h.mem_iff.mp (List.getElem_mem _))
  refine ⟨_, _, e, getD_at hi, ?_⟩
  unfold along
  rw [List.getElem?_map, e]
  rfl
/-- ties along an order -/
structure Ties (ord : List Str) (L : List (Str × Str)) : Prop where
  nd : L.Nodup
  up : ∀ p, p ∈ L → ∃ i j : Nat, i < j ∧ ord[i]? = some p.1 ∧ ord[j]? = some p.2
theorem Ties.add {ord : List Str} {L : List (Str × Str)} (h : Ties ord L) {i j : Nat} {x y : Str} (hij : i < j) (ex : ord[i]? = some x) (ey : ord[j]? = some y) : Ties ord (insP L (x, y)) :=
  ⟨insP_nd h.nd, fun p hp => by
    rcases mem_insP.mp hp with z | z
    · exact h.up p z
    · rw [z]
      exact ⟨i, j, hij, ex, ey⟩⟩
theorem insP_len {L : List (Str × Str)} {p : Str × Str} : (insP L p).length ≤ L.length + 1 := by
  unfold insP
  split
  · omega
  · simp
theorem counts {names : List Str} {ps L M : List (Str × Str)} {rs : List (List Str)} (hB : Bare names ps) (hL : ∀ x y, (x, y) ∈ L ↔ SP ps x y) (hM : Links (SL L) names M)
    (hs : rs.map (fun r => r[0]?) = (names.filter fun x => !(valA M x).isSome).map some) (he : ∀ r, r ∈ rs → RowEnd M r) : Cover names (SP ps) rs ∧ rs.length + M.length = names.length ∧ Best names (SP ps) rs.length := by
  obtain ⟨rank, hrank⟩ := hB.f.2.2.2.2
  exact full_best (SP.trans ps) hB.f.1 (fun a b h => SP.mem hB.f h) rank (fun a b ⟨u, p⟩ => p.up hrank) (hM.to hL) (fun x hx => hx) hs he
theorem three {a b c r : Int} (h0 : 0 ≤ r) (h1 : r < 3) : ∃ t, atI [D.int a, D.int b, D.int c] r = some (.int t) ∧ (t = a ∨ t = b ∨ t = c) := by
  obtain ⟨j, rfl⟩ : ∃ k : Nat, r = (k : Int) := ⟨r.toNat, by omega⟩
  match j, h1 with
  | 0, _ => exact ⟨a, rfl, .inl rfl⟩
  | 1, _ => exact ⟨b, rfl, .inr (.inl rfl)⟩
  | 2, _ => exact ⟨c, rfl, .inr (.inr rfl)⟩
theorem four {l : List Str} (h : 4 ≤ l.length) : ∃ a b c d : Str, l.take 4 = [a, b, c, d] := by
  match l, h with
  | a :: b :: c :: d :: _, _ => exact ⟨a, b, c, d, rfl⟩
theorem pqrs : ∀ x, x ∈ [Str.ofString "p", Str.ofString "q", Str.ofString "r", Str.ofString "s"] → Word x := by
  intro x hx
  simp only [List.mem_cons, List.not_mem_nil, or_false] at hx
  rcases hx with rfl | rfl | rfl | rfl <;> exact ⟨by decide +kernel, by decide +kernel, by decide +kernel⟩
theorem none_any {α : Type} : ∀ l : List α, (l.map fun _ => false).any id = false
  | [] => rfl
  | x :: l => none_any l
/-- the store of the law's call -/
structure St (ρ : Sto) (p : Addr) (ρ' : Sto) : Prop where
  s : AB.Sub ρ ρ'
  pool : PoolAt ρ' p
  n : ρ p = none
theorem St.drawn {ρ ρ' ρ'' : Sto} {p : Addr} (h : St ρ p ρ') (k : Drawn ρ' p ρ'') : St ρ p ρ'' := ⟨fun a u e => by rw [k.ne (ne_pu e h.n)]; exact h.s a u e, k.at_, h.n⟩
theorem St.ne {ρ ρ' : Sto} {p a : Addr} (h : St ρ p ρ') (e : ρ' a = none) : a ≠ p := fun z => by
  obtain ⟨_, _, _, q⟩ := h.pool
  rw [z, q] at e
  cases e
theorem St.new {ρ ρ' : Sto} {p a : Addr} {o : Mo} (h : St ρ p ρ') (e : ρ' a = none) : St ρ p (pu ρ' a o) := by
  have hn := h.ne e
  obtain ⟨ns, h1, h2, h3⟩ := h.pool
  exact ⟨h.s.new (none_of h.s e), ⟨ns, h1, h2, by rw [pu_ne (Ne.symm hn)]; exact h3⟩, h.n⟩
theorem St.put {ρ ρ' : Sto} {p a : Addr} {o : Mo} (h : St ρ p ρ') (e : ρ a = none) (hn : a ≠ p) : St ρ p (pu ρ' a o) := by
  obtain ⟨ns, h1, h2, h3⟩ := h.pool
  exact ⟨h.s.new e, ⟨ns, h1, h2, by rw [pu_ne (Ne.symm hn)]; exact h3⟩, h.n⟩
/-! ### law -/
abbrev slaw : Stmt := topS 34
theorem sclaw : FnScope ["script", "pool", "wide", "names", "many", "order", "most", "ties", "lap", "one", "some", "few", "drawn", "bare", "ahead", "taken", "size", "books", "best", "told", "at", "thing", "pair"] ["script"] (defScope slaw) := ⟨rfl, rfl, rfl, by decide +kernel, rfl, by decide +kernel, by decide +kernel⟩
def FLaw (K : PySem.W.Frag) (xs : List AB.A) (ρ : Sto) (R : QA) : Prop := ∃ ns : List Int, xs = [.s K ns] ∧ R (.d (.bl true)) ρ
theorem ok_law {f : Addr} {fd : FuncData} (F : Fun K "law" "law" slaw f fd) (T : TxtB K mg) : FnOk P w K mg base CX0 7 f fd ["script"] (spA (FLaw K)) := by
  have G_law_draw : FnOk P w K mg base CX0 1 T.d_law_draw.f T.d_law_draw.fd ["pool", "many"] (spA FDraw) := ok_draw T.d_law_draw.F T.toTz
  have G_law_pool : FnOk P w K mg base CX0 1 T.d_law_pool.f T.d_law_pool.fd ["script"] (spA (FPool K)) := ok_pool T.d_law_pool.F T.toTz
  have G_law_named : FnOk P w K mg base CX0 2 T.d_law_named.f T.d_law_named.fd ["pool", "many"] (spA FNamed) := ok_named T.d_law_named.F T.toTxt9
  have G_law_order : FnOk P w K mg base CX0 2 T.d_law_order.f T.d_law_order.fd ["pool", "many"] (spA FOrder) := ok_order T.d_law_order.F T.toTxt9
  have G_law_ahead : FnOk P w K mg base CX0 1 T.d_law_ahead.f T.d_law_ahead.fd ["names", "ties"] (spA FAhead) := ok_ahead T.d_law_ahead.F T.toTz
  have G_law_matched : FnOk P w K mg base CX0 1 T.d_law_matched.f T.d_law_matched.fd ["names", "ahead"] (spA FMatch) := ok_matched T.d_law_matched.F T.toTz
  have G_law_rows : FnOk P w K mg base CX0 1 T.d_law_rows.f T.d_law_rows.fd ["names", "taken"] (spA FLRows) := ok_lrows T.d_law_rows.F T.toTz
  have G_law_widest : FnOk P w K mg base CX0 1 T.d_law_widest.f T.d_law_widest.fd ["names", "ahead", "taken"] (spA FLWid) := ok_lwid T.d_law_widest.F T.toTz
  have G_law_open : FnOk P w K mg base CX0 1 T.d_law_open.f T.d_law_open.fd ["names", "ahead", "thing"] (spA FLOpen) := ok_lopen T.d_law_open.F T.toTz
  have G_law_covering : FnOk P w K mg base CX0 1 T.d_law_covering.f T.d_law_covering.fd ["names", "ahead", "thing"] (spA FLCov) := ok_lcov T.d_law_covering.F T.toTz
  have G_law_said : FnOk P w K mg base CX0 6 T.d_law_said.f T.d_law_said.fd ["bare", "ahead", "many", "thing", "rows"] (spA FSaid) := ok_said T.d_law_said.F T.toTxtA
  have G_law_sets : FnOk P w K mg base CX0 2 T.d_law_sets.f T.d_law_sets.fd ["pool", "names", "best"] (spA FSets) := ok_sets T.d_law_sets.F T.toTxt9
  have G_law_books : FnOk P w K mg base CX0 2 T.d_law_books.f T.d_law_books.fd ["pool", "names", "best"] (spA FBooks) := ok_books T.d_law_books.F T.toTxt9
  have Gwidest_of : FnOk P w K mg base CX0 4 T.dwidest_of.f T.dwidest_of.fd ["bare"] (spA FWid) := ok_wid T.dwidest_of.F T.toTxt5
  have Gcovering_of : FnOk P w K mg base CX0 4 T.dcovering_of.f T.dcovering_of.fd ["bare"] (spA FCov) := ok_cov T.dcovering_of.F T.toTxt5
  refine F.ok sclaw (spA_len fun xs ρ R h => ?_) (fun cdv Ar outer s H vs Q E hr h => ?_)
  · obtain ⟨_, rfl, _⟩ := h
    rfl
  · have hu : _ + 1 < cLine := hu_of hr
    have hu64 : _ + 64 < cLine := hr.units
    refine ⟨_, (pss_cons (ps_set (i := 1) sclaw.nd rfl (Or.inl rfl) (pe_call G_law_pool (hr.mono (by first | decide | omega)) rfl T.d_law_pool.g T.d_law_pool.k T.d_law_pool.b .nil pass0 (pa_cons (pv 0) pa_nil)))
  (pss_cons (ps_set (i := 2) sclaw.nd rfl (Or.inl rfl) (pe_cmpR op_eq (pe_call G_law_draw (hr.mono (by first | decide | omega)) rfl T.d_law_draw.g T.d_law_draw.k T.d_law_draw.b .nil pass0 (pa_cons (pv 1) (pa_cons pe_int pa_nil))) pe_int (nomark _)))
  (pss_cons (ps_set (i := 3) sclaw.nd rfl (Or.inr rfl) (pe_callTy call_tupleZ (by rfl) T.z_tuple bt_tuple (pa_cons (pe_call G_law_named (hr.mono (by first | decide | omega)) rfl T.d_law_named.g T.d_law_named.k T.d_law_named.b .nil pass0 (pa_cons (pv 1) (pa_cons (pe_ifExp (pt_val (pv 2)) (pe_op op_add pe_int (pe_call G_law_draw (hr.mono (by first | decide | omega)) rfl T.d_law_draw.g T.d_law_draw.k T.d_law_draw.b .nil pass0 (pa_cons (pv 1) (pa_cons pe_int pa_nil)))) (pe_op op_add pe_int (pe_call G_law_draw (hr.mono (by first | decide | omega)) rfl T.d_law_draw.g T.d_law_draw.k T.d_law_draw.b .nil pass0 (pa_cons (pv 1) (pa_cons pe_int pa_nil))))) pa_nil))) pa_nil)))
  (pss_cons (ps_set (i := 4) sclaw.nd rfl (Or.inl rfl) (pe_callB call_len_seq (by rfl) T.z_len bt_len (pa_cons (pv 3) pa_nil)))
  (pss_cons (ps_set (i := 5) sclaw.nd rfl (Or.inl rfl) (pe_call G_law_order (hr.mono (by first | decide | omega)) rfl T.d_law_order.g T.d_law_order.k T.d_law_order.b .nil pass0 (pa_cons (pv 1) (pa_cons (pv 4) pa_nil))))
  (pss_cons (ps_set (i := 6) sclaw.nd rfl (Or.inl rfl) (pe_ix ix_tup (pe_tupZ (pa_cons pe_int (pa_cons (pv 4) (pa_cons (pe_op op_mul pe_int (pv 4)) pa_nil)))) (pe_call G_law_draw (hr.mono (by first | decide | omega)) rfl T.d_law_draw.g T.d_law_draw.k T.d_law_draw.b .nil pass0 (pa_cons (pv 1) (pa_cons pe_int pa_nil))) (fun _ _ => rfl)))
  (pss_cons (ps_set (i := 7) sclaw.nd rfl (Or.inl rfl) pe_dnewT)
  (pss_cons (ps_for PassesOwn.never rfl (pi_range1 (by rfl) T.z_range (pa_cons (pe_callB (call_min2 rfl) (by rfl) T.z_min bt_min (pa_cons (pv 6) (pa_cons pe_int pa_nil))) pa_nil)) (pg_name (i := 8) sclaw.nd rfl (Or.inl rfl))
  (pss_cons (ps_set (i := 9) sclaw.nd rfl (Or.inl rfl) (pe_call G_law_draw (hr.mono (by first | decide | omega)) rfl T.d_law_draw.g T.d_law_draw.k T.d_law_draw.b .nil pass0 (pa_cons (pv 1) (pa_cons (pe_op op_sub (pv 4) pe_int) pa_nil))))
  (pss_one (ps_dput hu (pv 7) (pe_tup (pa_cons (pe_ix ix_tup (pv 3) (pe_ix ix_list (pv 5) (pv 9) (fun _ _ => rfl)) (fun _ _ => rfl)) (pa_cons (pe_ix ix_tup (pv 3) (pe_ix ix_list (pv 5) (pe_op op_add (pe_op op_add (pv 9) pe_int) (pe_call G_law_draw (hr.mono (by first | decide | omega)) rfl T.d_law_draw.g T.d_law_draw.k T.d_law_draw.b .nil pass0 (pa_cons (pv 1) (pa_cons (pe_op op_sub (pe_op op_sub (pv 4) pe_int) (pv 9)) pa_nil)))) (fun _ _ => rfl)) (fun _ _ => rfl)) pa_nil))) pe_bl rfl))))
  (pss_cons (ps_dput hu (pv 7) (pe_tup (pa_cons (pe_ix ix_tup (pv 3) (pe_ix ix_list (pv 5) pe_int (fun _ _ => rfl)) (fun _ _ => rfl)) (pa_cons (pe_ix ix_tup (pv 3) (pe_ix ix_list (pv 5) pe_int (fun _ _ => rfl)) (fun _ _ => rfl)) pa_nil))) pe_bl rfl)
  (pss_cons (ps_set (i := 10) sclaw.nd rfl (Or.inl rfl) (pe_ifExp (pt_cmpR op_gt (pv 4) pe_int (nomark _)) (pe_lc (own := [("at", 20)]) rfl sclaw.nd (pi_list (pe_slice sl_list (pv 5) po_none (po_some pe_int))) (blkOk_by (N := ["script", "pool", "wide", "names", "many", "order", "most", "ties", "lap", "one", "some", "few", "drawn", "bare", "ahead", "taken", "size", "books", "best", "told", "at", "thing", "pair"]) (sc := defScope slaw) (by decide +kernel)) (fun _ _ _ _ _ => (pg_name (i := 20) sclaw.nd rfl (Or.inl rfl))) (fun _ _ _ _ _ => pts_nil) (fun _ _ _ _ _ => (pe_ix (ixR_K (r := rIxT) (K := K) rfl ix_tup) (pv 3) (pv 20) (fun _ _ => rfl)))) (pe_lst (pa_cons pe_str (pa_cons pe_str (pa_cons pe_str (pa_cons pe_str pa_nil)))))))
  (pss_cons (ps_set (i := 11) sclaw.nd rfl (Or.inl rfl) (pe_callTy call_tupleZ (by rfl) T.z_tuple bt_tuple (pa_cons (pe_callB (cr_sortedTS hu64) (by rfl) T.z_sorted bt_sorted (pa_cons (pe_lst (pa_cons (pe_tup (pa_cons (pe_ix ix_list (pv 10) pe_int (fun _ _ => rfl)) (pa_cons (pe_ix ix_list (pv 10) pe_int (fun _ _ => rfl)) pa_nil))) (pa_cons (pe_tup (pa_cons (pe_ix ix_list (pv 10) pe_int (fun _ _ => rfl)) (pa_cons (pe_ix ix_list (pv 10) pe_int (fun _ _ => rfl)) pa_nil))) (pa_cons (pe_tup (pa_cons (pe_ix ix_list (pv 10) pe_int (fun _ _ => rfl)) (pa_cons (pe_ix ix_list (pv 10) pe_int (fun _ _ => rfl)) pa_nil))) pa_nil)))) pa_nil)) pa_nil)))
  (pss_cons (ps_set (i := 12) sclaw.nd rfl (Or.inl rfl) (pe_tupZ (pa_cons (pv 3) (pa_cons (pe_callTy call_tupleZ (by rfl) T.z_tuple bt_tuple (pa_cons (pe_callB (cr_sortedTS hu64) (by rfl) T.z_sorted bt_sorted (pa_cons (pe_lock (pe_lc (own := [("pair", 22)]) rfl sclaw.nd (pi_keys (pv 7)) (blkOk_by (N := ["script", "pool", "wide", "names", "many", "order", "most", "ties", "lap", "one", "some", "few", "drawn", "bare", "ahead", "taken", "size", "books", "best", "told", "at", "thing", "pair"]) (sc := defScope slaw) (by decide +kernel)) (fun _ _ _ _ _ => (pg_name (i := 22) sclaw.nd rfl (Or.inl rfl))) (fun _ _ _ _ _ => pts_nil) (fun _ _ _ _ _ => (pv 22)))) pa_nil)) pa_nil)) pa_nil))))
  (pss_cons (ps_for PassesOwn.never rfl (pi_tup (pe_tupZ (pa_cons (pv 12) (pa_cons (pe_tupZ (pa_cons (pe_callTy call_tupleZ (by rfl) T.z_tuple bt_tuple (pa_cons (pe_callB cr_sortedSS (by rfl) T.z_sorted bt_sorted (pa_cons (pv 10) pa_nil)) pa_nil)) (pa_cons (pv 11) pa_nil))) (pa_cons (pe_tupZ (pa_cons (pe_slice sl_tupZ (pv 3) po_none (po_some pe_int)) (pa_cons (pe_tupZ pa_nil) pa_nil))) (pa_cons (pe_tupZ (pa_cons (pe_tupZ pa_nil) (pa_cons (pe_tupZ pa_nil) pa_nil))) pa_nil)))))) (pg_name (i := 13) sclaw.nd rfl (Or.inr rfl))
  (pss_cons (ps_set (i := 14) sclaw.nd rfl (Or.inr rfl) (pe_call G_law_ahead (hr.mono (by first | decide | omega)) rfl T.d_law_ahead.g T.d_law_ahead.k T.d_law_ahead.b .nil pass0 (pa_cons (pe_ix ix_tup (pv 13) pe_int (fun _ _ => rfl)) (pa_cons (pe_ix ix_tup (pv 13) pe_int (fun _ _ => rfl)) pa_nil))))
  (pss_cons (ps_set (i := 15) sclaw.nd rfl (Or.inl rfl) (pe_call G_law_matched (hr.mono (by first | decide | omega)) rfl T.d_law_matched.g T.d_law_matched.k T.d_law_matched.b .nil pass0 (pa_cons (pe_ix ix_tup (pv 13) pe_int (fun _ _ => rfl)) (pa_cons (pv 14) pa_nil))))
  (pss_cons (ps_set (i := 16) sclaw.nd rfl (Or.inr rfl) (pe_op op_sub (pe_callB call_len_seq (by rfl) T.z_len bt_len (pa_cons (pe_ix ix_tup (pv 13) pe_int (fun _ _ => rfl)) pa_nil)) (pe_callB call_lenR (by rfl) T.z_len bt_len (pa_cons (pv 15) pa_nil))))
  (pss_cons (ps_set (i := 17) sclaw.nd rfl (Or.inl rfl) (pe_call G_law_rows (hr.mono (by first | decide | omega)) rfl T.d_law_rows.g T.d_law_rows.k T.d_law_rows.b .nil pass0 (pa_cons (pe_ix ix_tup (pv 13) pe_int (fun _ _ => rfl)) (pa_cons (pv 15) pa_nil))))
  (pss_cons (ps_set (i := 18) sclaw.nd rfl (Or.inl rfl) (pe_call G_law_widest (hr.mono (by first | decide | omega)) rfl T.d_law_widest.g T.d_law_widest.k T.d_law_widest.b .nil pass0 (pa_cons (pe_ix ix_tup (pv 13) pe_int (fun _ _ => rfl)) (pa_cons (pv 14) (pa_cons (pv 15) pa_nil)))))
  (pss_cons (ps_if (PW.pt (pw_or (pt_cmpR op_ne (pe_callB call_len_seq (by rfl) T.z_len bt_len (pa_cons (pv 18) pa_nil)) (pv 16) (nomark _)) (pw_or1 (pt_cmpR op_ne (pe_callB call_len_seq (by rfl) T.z_len bt_len (pa_cons (pv 17) pa_nil)) (pv 16) (nomark _))))) (pss_one (ps_ret pe_bl))
  pss_nil)
  (pss_cons (ps_set (i := 19) sclaw.nd rfl (Or.inl rfl) (pe_call Gwidest_of (hr.mono (by first | decide | omega)) rfl T.dwidest_of.g T.dwidest_of.k T.dwidest_of.b .nil pass0 (pa_cons (pv 13) pa_nil)))
  (pss_cons (ps_if (PW.pt (pw_or (pt_not (pt_val (pe_call G_law_open (hr.mono (by first | decide | omega)) rfl T.d_law_open.g T.d_law_open.k T.d_law_open.b .nil pass0 (pa_cons (pe_ix ix_tup (pv 13) pe_int (fun _ _ => rfl)) (pa_cons (pv 14) (pa_cons (pv 19) pa_nil)))))) (pw_or1 (pt_cmpR op_ne (pe_callB call_len_seq (by rfl) T.z_len bt_len (pa_cons (pv 19) pa_nil)) (pv 16) (nomark _))))) (pss_one (ps_ret pe_bl))
  pss_nil)
  (pss_cons (ps_set (i := 19) sclaw.nd rfl (Or.inl rfl) (pe_call Gcovering_of (hr.mono (by first | decide | omega)) rfl T.dcovering_of.g T.dcovering_of.k T.dcovering_of.b .nil pass0 (pa_cons (pv 13) pa_nil)))
  (pss_cons (ps_if (PW.pt (pw_or (pt_not (pt_val (pe_call G_law_covering (hr.mono (by first | decide | omega)) rfl T.d_law_covering.g T.d_law_covering.k T.d_law_covering.b .nil pass0 (pa_cons (pe_ix ix_tup (pv 13) pe_int (fun _ _ => rfl)) (pa_cons (pv 14) (pa_cons (pv 19) pa_nil)))))) (pw_or1 (pt_cmpR op_ne (pe_callB call_len_seq (by rfl) T.z_len bt_len (pa_cons (pv 19) pa_nil)) (pv 16) (nomark _))))) (pss_one (ps_ret pe_bl))
  pss_nil)
  (pss_cons (ps_if (pt_val (pe_callB (cr_any rfl) (by rfl) T.z_any bt_any (pa_cons (pe_lc (own := [("thing", 21)]) rfl sclaw.nd (pi_list (pe_call G_law_sets (hr.mono (by first | decide | omega)) rfl T.d_law_sets.g T.d_law_sets.k T.d_law_sets.b .nil pass0 (pa_cons (pv 1) (pa_cons (pe_ix ix_tup (pv 13) pe_int (fun _ _ => rfl)) (pa_cons (pv 18) pa_nil))))) (blkOk_by (N := ["script", "pool", "wide", "names", "many", "order", "most", "ties", "lap", "one", "some", "few", "drawn", "bare", "ahead", "taken", "size", "books", "best", "told", "at", "thing", "pair"]) (sc := defScope slaw) (by decide +kernel)) (fun _ _ _ _ _ => (pg_name (i := 21) sclaw.nd rfl (Or.inl rfl))) (fun _ _ _ _ _ => pts_nil) (fun _ _ _ _ _ => (pe_not (pe_call G_law_said (hr.mono (by first | decide | omega)) rfl T.d_law_said.g T.d_law_said.k T.d_law_said.b .nil pass0 (pa_cons (pv 13) (pa_cons (pv 14) (pa_cons (pv 16) (pa_cons (pv 21) (pa_cons pe_bl pa_nil))))))))) pa_nil))) (pss_one (ps_ret pe_bl))
  pss_nil)
  (pss_one (ps_if (pt_val (pe_callB (cr_any rfl) (by rfl) T.z_any bt_any (pa_cons (pe_lc (own := [("thing", 21)]) rfl sclaw.nd (pi_list (pe_call G_law_books (hr.mono (by first | decide | omega)) rfl T.d_law_books.g T.d_law_books.k T.d_law_books.b .nil pass0 (pa_cons (pv 1) (pa_cons (pe_ix ix_tup (pv 13) pe_int (fun _ _ => rfl)) (pa_cons (pv 17) pa_nil))))) (blkOk_by (N := ["script", "pool", "wide", "names", "many", "order", "most", "ties", "lap", "one", "some", "few", "drawn", "bare", "ahead", "taken", "size", "books", "best", "told", "at", "thing", "pair"]) (sc := defScope slaw) (by decide +kernel)) (fun _ _ _ _ _ => (pg_name (i := 21) sclaw.nd rfl (Or.inl rfl))) (fun _ _ _ _ _ => pts_nil) (fun _ _ _ _ _ => (pe_not (pe_call G_law_said (hr.mono (by first | decide | omega)) rfl T.d_law_said.g T.d_law_said.k T.d_law_said.b .nil pass0 (pa_cons (pv 13) (pa_cons (pv 14) (pa_cons (pv 16) (pa_cons (pv 21) (pa_cons pe_bl pa_nil))))))))) pa_nil))) (pss_one (ps_ret pe_bl))
  pss_nil))))))))))))))
  (pss_one (ps_ret pe_bl))))))))))))))), body_of h fun ρ xs R hF => ?_⟩
    obtain ⟨ns, rfl, k⟩ := hF
    repeat (first | with_reducible refine ws_seq ?_ | with_reducible refine ws_asg ?_ | refine we_var rfl ?_ | with_reducible refine wa_cons ?_ | with_reducible refine wa_nil ?_ | with_reducible refine we_call ?_)
    refine ⟨ns, rfl, fun p ms hp0 hms hmz => ?_⟩
    have hS0 : St ρ p (pu ρ p (intM ms)) := ⟨(AB.Sub.refl ρ).new hp0, ⟨ms, hms, hmz, pu_same⟩, hp0⟩
    refine wg_name ?_
    refine ws_seq (WS.thn (P := fun γ ρ' => (∃ b : Bool, γ = [some (.s K ns), some (.m p), some (.d (.bl b)), none, none, none, none, none, none, none, none, none, none, none, none, none, none, none, none, none, none, none, none]) ∧ St ρ p ρ') ?_ ?_)
    · repeat (first | with_reducible refine ws_asg ?_ | with_reducible refine we_op ?_ | refine we_var rfl ?_ | with_reducible refine we_int ?_ | with_reducible refine wa_cons ?_ | with_reducible refine wa_nil ?_ | with_reducible refine we_call ?_)
      refine FDraw.of hS0.pool (by decide) (by decide) fun r1 ρ1 _ _ hd1 => ?_
      with_reducible repeat (first | refine wg_name ?_ | refine we_int ?_ | refine o2_eqI ?_)
      exact ⟨⟨_, rfl⟩, hS0.drawn hd1⟩
    rintro γ ρ1 ⟨⟨wide, rfl⟩, hS1⟩
    refine ws_seq (ws_asg (we_cb (wa_cons (WE.mono (Q := fun x ρ' => ∃ (names : List Str) , x = .d (.lst (names.map D.str)) ∧ 2 ≤ names.length ∧ names.length ≤ 40 ∧ ascL ltStr names = true ∧ (∀ x, x ∈ names → Word x) ∧ St ρ p ρ') ?_ ?_))))
    · refine we_call (wa_cons (we_var rfl (wa_cons (WE.mono (Q := fun x ρ' => ∃ n : Nat, x = .d (.int (n : Nat)) ∧ 2 ≤ n ∧ n ≤ 40 ∧ St ρ p ρ') ?_ ?_))))
      · repeat (first | refine we_var rfl ?_ | with_reducible refine wt_B ?_ | with_reducible refine we_if ?_ | refine ⟨_, (rfl : AB.A.d (D.bl _) = _), ?_⟩)
        refine ⟨fun _ => ?_, fun _ => ?_⟩
        · repeat (first | with_reducible refine we_op ?_ | refine we_var rfl ?_ | with_reducible refine we_int ?_ | with_reducible refine wa_cons ?_ | with_reducible refine wa_nil ?_ | with_reducible refine we_call ?_)
          refine FDraw.of hS1.pool (by decide) (by decide) fun r2 ρ2 h20 h21 hd2 => ?_
          repeat (first | refine o2_I0 (fun _ => Rep.int _) ?_)
          exact ⟨30 + r2.toNat, by rw [show (30 : Int) + r2 = ((30 + r2.toNat : Nat) : Int) by omega], by omega, by omega, hS1.drawn hd2⟩
        · repeat (first | with_reducible refine we_op ?_ | refine we_var rfl ?_ | with_reducible refine we_int ?_ | with_reducible refine wa_cons ?_ | with_reducible refine wa_nil ?_ | with_reducible refine we_call ?_)
          refine FDraw.of hS1.pool (by decide) (by decide) fun r2 ρ2 h20 h21 hd2 => ?_
          repeat (first | refine o2_I0 (fun _ => Rep.int _) ?_)
          exact ⟨2 + r2.toNat, by rw [show (2 : Int) + r2 = ((2 + r2.toNat : Nat) : Int) by omega], by omega, by omega, hS1.drawn hd2⟩
      rintro x ρ2 ⟨n, rfl, hn2, hn40, hS2⟩
      with_reducible repeat (first | refine wa_nil ?_)
      refine ⟨p, n, rfl, hS2.pool, by omega, fun names ρ3 hl ha hw hd3 => ?_⟩
      exact ⟨names, rfl, by omega, by omega, ha, hw, hS2.drawn hd3⟩
    rintro x ρ2 ⟨names, rfl, hn2, hn40, hasc, hword, hS2⟩
    with_reducible repeat (first | refine wa_nil ?_)
    refine on_tuple lsd ?_
    repeat (first | with_reducible refine ws_seq ?_ | with_reducible refine ws_asg ?_ | with_reducible refine wg_name ?_ | refine we_var rfl ?_ | with_reducible refine wa_cons ?_ | with_reducible refine wa_nil ?_ | with_reducible refine we_cb ?_ | with_reducible refine we_call ?_ | with_reducible refine on_lenT ?_)
    rw [List.length_map]
    refine ⟨p, names.length, rfl, hS2.pool, by omega, fun os ρ3 hos hd3 => ?_⟩
    have hS3 := hS2.drawn hd3
    with_reducible repeat (first | refine ws_seq ?_ | refine ws_asg ?_ | refine wg_name ?_ | refine we_op ?_)
    refine we_tup ?_
    repeat (first | with_reducible refine we_op ?_ | refine we_var rfl ?_ | with_reducible refine we_int ?_ | with_reducible refine wa_cons ?_ | with_reducible refine wa_nil ?_ | ((refine o2_I (fun _ => Rep.int _) ?_ ?_); (· first | assumption | decide | omega | (constructor <;> first | omega | decide))))
    refine ⟨[.int 0, .int names.length, .int (3 * names.length)], rfl, (by show 3 ≤ 100000; decide), ?_⟩
    repeat (first | refine we_var rfl ?_ | with_reducible refine we_int ?_ | with_reducible refine wa_cons ?_ | with_reducible refine wa_nil ?_ | with_reducible refine we_call ?_)
    refine FDraw.of hS3.pool (by decide) (by decide) fun r4 ρ4 h40 h41 hd4 => ?_
    have hS4 := hS3.drawn hd4
    obtain ⟨most, em, hm⟩ := three (a := 0) (b := names.length) (c := 3 * names.length) h40 h41
    skip
    refine o2_ixT em ?_
    with_reducible repeat (first | refine ws_seq ?_ | refine ws_asg ?_ | refine wg_name ?_)
    refine we_dictT fun td htd => ?_
    have htp := hS4.ne htd
    have ht0 := none_of hS4.s htd
    have hS5 := hS4.new (o := .dT []) htd
    with_reducible repeat (first | refine ws_seq ?_ | refine wg_name ?_)
    refine ws_for (wi_rng1 ?_)
    repeat (first | refine we_var rfl ?_ | with_reducible refine we_int ?_ | with_reducible refine wa_cons ?_ | with_reducible refine wa_nil ?_ | with_reducible refine we_cb ?_)
    refine on_min2 ?_
    with_reducible repeat (first | refine wa_nil ?_)
    refine ⟨_, rfl, by split <;> omega, ?_⟩
    have hmn : (if (150 : Int) < most then 150 else most).toNat ≤ 150 := by split <;> omega
    generalize (if (150 : Int) < most then 150 else most).toNat = cnt at hmn ⊢
    have hon : (along names os).Perm names := along_perm hos
    refine ⟨fun i γ ρ' => ∃ (L : List (Str × Str)) (v8 v9 : Option AB.A), γ = [some (.s K ns), some (.m p), some (.d (.bl wide)), some (.d (.tup (names.map D.str))), some (.d (.int names.length)), some (.d (.lst (os.map fun i => D.int (i : Nat)))), some (.d (.int most)), some (.m td), v8, v9, none, none, none, none, none, none, none, none, none, none, none, none, none] ∧ ρ' td = some (.dT (pairK L)) ∧ Ties (along names os) L ∧ L.length ≤ i ∧ St ρ p ρ', ?_, fun _ _ _ _ _ => trivial, ?_, ?_⟩
    · exact ⟨[], _, _, rfl, pu_same, ⟨by simp, fun p h => by simp at h⟩, Nat.le_refl _, hS5⟩
    · rintro i y γ ρ' ey ⟨L, v8, v9, rfl, h1, hT, hl, hS⟩
      obtain ⟨hi, rfl⟩ := rgA_at ey
      refine wg_name ?_
      repeat (first | with_reducible refine ws_seq ?_ | with_reducible refine ws_asg ?_ | with_reducible refine we_op ?_ | refine we_var rfl ?_ | with_reducible refine we_int ?_ | with_reducible refine wa_cons ?_ | with_reducible refine wa_nil ?_ | with_reducible refine we_call ?_ | refine o2_I0 (fun _ => Rep.int _) ?_)
      refine FDraw.of hS.pool (by omega) (by omega) fun a ρ5 ha0 ha1 hd5 => ?_
      have hS6 := hS.drawn hd5
      obtain ⟨a, rfl⟩ : ∃ k : Nat, a = (k : Int) := ⟨a.toNat, by omega⟩
      obtain ⟨x1, y1, e1, e2, e3⟩ := along_at hos (j := a) (by omega)
      with_reducible repeat (first | refine wg_name ?_)
      refine ws_dput ?_
      repeat (first | refine we_var rfl ?_ | with_reducible refine we_bl ?_)
      refine we_ptup ?_
      repeat (first | with_reducible refine we_op ?_ | refine we_var rfl ?_ | with_reducible refine wa_cons ?_)
      refine o2_ixL (lsd (ds := os.map fun i => D.int (i : Nat))) (atI_nat' (v := A.d (D.int (x1 : Nat))) (by rw [List.getElem?_map, List.getElem?_map, e1]; rfl)) ?_
      refine o2_ixT (z := .str y1) (atI_nat' (by rw [List.getElem?_map, e2]; rfl)) ?_
      repeat (first | with_reducible refine we_op ?_ | refine we_var rfl ?_ | with_reducible refine we_int ?_ | with_reducible refine wa_cons ?_ | with_reducible refine wa_nil ?_ | with_reducible refine we_call ?_ | refine o2_I0 (fun _ => Rep.int _) ?_)
      refine FDraw.of hS6.pool (by omega) (by omega) fun b ρ6 hb0 hb1 hd6 => ?_
      have hS7 := hS6.drawn hd6
      obtain ⟨b, rfl⟩ : ∃ k : Nat, b = (k : Int) := ⟨b.toNat, by omega⟩
      obtain ⟨x2, y2, f1, f2, f3⟩ := along_at hos (j := a + 1 + b) (by omega)
      repeat (first | refine o2_I0 (fun _ => Rep.int _) ?_)
      refine o2_ixL (lsd (ds := os.map fun i => D.int (i : Nat))) (show atI _ ((a : Int) + 1 + (b : Int)) = some (A.d (D.int (x2 : Nat))) by rw [show (a : Int) + 1 + (b : Int) = ((a + 1 + b : Nat) : Int) by omega]; exact atI_nat' (by rw [List.getElem?_map, List.getElem?_map, f1]; rfl)) ?_
      refine o2_ixT (z := .str y2) (atI_nat' (by rw [List.getElem?_map, f2]; rfl)) ?_
      with_reducible repeat (first | refine wa_nil ?_)
      refine ⟨[.str y1, .str y2], rfl, (by show 2 ≤ 100000; decide), ?_⟩
      have h2 : ρ6 td = some (.dT (pairK L)) := by rw [hd6.ne htp, hd5.ne htp]; exact h1
      refine ⟨_, pair_put h2 (by omega), ?_⟩
      exact ⟨_, _, _, rfl, pu_same, hT.add (by omega) e3 f3, Nat.le_trans insP_len (by omega), hS7.put ht0 htp⟩
    rintro γ ρ5 ⟨L, v8, v9, rfl, h1, hT, hl, hS⟩
    rw [rgA_len] at hl
    with_reducible repeat (first | refine ws_seq ?_)
    obtain ⟨x1, y1, e1, e2, e3⟩ := along_at hos (j := 0) (by omega)
    obtain ⟨x2, y2, f1, f2, f3⟩ := along_at hos (j := 1) (by omega)
    refine ws_dput ?_
    repeat (first | refine we_var rfl ?_ | with_reducible refine we_bl ?_)
    refine we_ptup ?_
    repeat (first | with_reducible refine we_op ?_ | refine we_var rfl ?_ | with_reducible refine we_int ?_ | with_reducible refine wa_cons ?_)
    refine o2_ixL (lsd (ds := os.map fun i => D.int (i : Nat))) (atI_nat' (j := 0) (v := A.d (D.int (x1 : Nat))) (by rw [List.getElem?_map, List.getElem?_map, e1]; rfl)) ?_
    refine o2_ixT (z := .str y1) (atI_nat' (by rw [List.getElem?_map, e2]; rfl)) ?_
    repeat (first | with_reducible refine we_op ?_ | refine we_var rfl ?_ | with_reducible refine we_int ?_ | with_reducible refine wa_cons ?_)
    refine o2_ixL (lsd (ds := os.map fun i => D.int (i : Nat))) (atI_nat' (j := 1) (v := A.d (D.int (x2 : Nat))) (by rw [List.getElem?_map, List.getElem?_map, f1]; rfl)) ?_
    refine o2_ixT (z := .str y2) (atI_nat' (by rw [List.getElem?_map, f2]; rfl)) ?_
    with_reducible repeat (first | refine wa_nil ?_)
    refine ⟨[.str y1, .str y2], rfl, (by show 2 ≤ 100000; decide), ?_⟩
    refine ⟨_, pair_put h1 (by omega), ?_⟩
    have hT1 := hT.add (by omega) e3 f3
    have hl1 : (insP L (y1, y2)).length ≤ 151 := Nat.le_trans insP_len (by omega)
    generalize insP L (y1, y2) = L1 at hT1 hl1 ⊢
    have hS8 := hS.put (o := .dT (pairK L1)) ht0 htp
    have h8 : pu ρ5 td (.dT (pairK L1)) td = some (.dT (pairK L1)) := pu_same
    generalize pu ρ5 td (.dT (pairK L1)) = ρ8 at hS8 h8 ⊢
    refine ws_seq (WS.thn (P := fun γ ρ' => (∃ s0 s1 s2 s3 : Str, [s0, s1, s2, s3].Nodup ∧ (∀ x, x ∈ [s0, s1, s2, s3] → Word x) ∧ γ = [some (.s K ns), some (.m p), some (.d (.bl wide)), some (.d (.tup (names.map D.str))), some (.d (.int names.length)), some (.d (.lst (os.map fun i => D.int (i : Nat)))), some (.d (.int most)), some (.m td), v8, v9, some (.d (.lst ([s0, s1, s2, s3].map D.str))), none, none, none, none, none, none, none, none, none, none, none, none]) ∧ ρ' = ρ8) ?_ ?_)
    · repeat (first | with_reducible refine ws_asg ?_ | with_reducible refine we_op ?_ | refine we_var rfl ?_ | with_reducible refine we_int ?_ | with_reducible refine wt_test ?_ | with_reducible refine we_if ?_ | refine ⟨_, (rfl : AB.A.d (D.bl _) = _), ?_⟩ | refine o2_I0 (fun _ => Rep.bl _) ?_)
      refine ⟨fun c => ?_, fun c => ?_⟩
      · have c3 := of_decide_eq_true c
        skip
        refine we_lcF (wi_list ?_)
        repeat (first | refine we_var rfl ?_ | with_reducible refine we_int ?_ | with_reducible refine we_sl ?_ | with_reducible refine wo_none ?_ | with_reducible refine wo_some ?_ | refine ⟨_, (rfl : AB.A.d (D.int _) = _), ?_⟩)
        refine o3_lst lsd ?_
        rw [cutD_map, show (4 : Int) = ((4 : Nat) : Int) from rfl, cutA_to]
        refine ⟨_, lsd, Nat, os.take 4, fun i => D.int (i : Nat), fun i => .str (names.getD i Str.empty), fun _ => true, rfl, fun _ _ => lsd, by rw [List.length_take]; omega, fun n hn ρx sb => ?_, ?_⟩
        · refine wgv_name (by decide) ⟨rfl, wt_yes ⟨rfl, rfl, fun _ => ?_⟩⟩
          repeat (first | with_reducible refine we_op ?_ | refine we_var rfl ?_)
          have hnl := List.mem_range.mp (hos.mem_iff.mp (List.mem_of_mem_take hn))
          refine o2_ixT (z := .str (names.getD n Str.empty)) (atI_nat' (by rw [List.getElem?_map, getD_at hnl]; rfl)) ?_
          exact ⟨rfl, rfl⟩
        rw [nocut, show (os.take 4).map (fun i => D.str (names.getD i Str.empty)) = ((along names os).take 4).map D.str by unfold along; rw [← List.map_take, List.map_map]; rfl]
        obtain ⟨s0, s1, s2, s3, e4⟩ := four (l := along names os) (by rw [hon.length_eq]; omega)
        have hsub : ((along names os).take 4).Sublist (along names os) := List.take_sublist _ _
        rw [e4] at hsub ⊢
        with_reducible repeat (first | refine wg_name ?_)
        exact ⟨⟨s0, s1, s2, s3, (hon.nodup_iff.mpr (asc_nd (lt := ltStr) ltStr_trans ltStr_ir hasc)).sublist hsub, fun x hx => hword x (hon.mem_iff.mp (hsub.subset hx)), rfl⟩, rfl⟩
      · skip
        refine we_lst ?_
        with_reducible repeat (first | refine we_str ?_ | refine wa_cons ?_ | refine wa_nil ?_)
        refine ⟨[.str (Str.ofString "p"), .str (Str.ofString "q"), .str (Str.ofString "r"), .str (Str.ofString "s")], rfl, (by show 4 ≤ 100000; decide), ?_⟩
        with_reducible repeat (first | refine wg_name ?_)
        exact ⟨⟨Str.ofString "p", Str.ofString "q", Str.ofString "r", Str.ofString "s", by decide +kernel, pqrs, rfl⟩, rfl⟩
    rintro γ ρ9 ⟨⟨s0, s1, s2, s3, hsn, hsw, rfl⟩, rfl⟩
    with_reducible repeat (first | refine ws_seq ?_ | refine ws_asg ?_ | refine wa_cons ?_ | refine we_cb ?_)
    refine we_lst ?_
    with_reducible repeat (first | refine wa_cons ?_)
    refine we_ptup ?_
    repeat (first | with_reducible refine we_op ?_ | refine we_var rfl ?_ | with_reducible refine we_int ?_ | with_reducible refine wa_cons ?_)
    have g0 : ∀ ρ, LsA (A.d (.lst ([s0, s1, s2, s3].map D.str))) ρ (([s0, s1, s2, s3].map D.str).map .d) := fun _ => lsd
    refine o2_ixL (g0 _) (atI_nat' (j := 0) rfl) ?_
    repeat (first | with_reducible refine we_op ?_ | refine we_var rfl ?_ | with_reducible refine we_int ?_ | with_reducible refine wa_cons ?_)
    refine o2_ixL (g0 _) (atI_nat' (j := 2) rfl) ?_
    with_reducible repeat (first | refine wa_nil ?_)
    refine ⟨[.str s0, .str s2], rfl, (by show 2 ≤ 100000; decide), ?_⟩
    refine wa_cons (we_ptup ?_)
    repeat (first | with_reducible refine we_op ?_ | refine we_var rfl ?_ | with_reducible refine we_int ?_ | with_reducible refine wa_cons ?_)
    refine o2_ixL (g0 _) (atI_nat' (j := 0) rfl) ?_
    repeat (first | with_reducible refine we_op ?_ | refine we_var rfl ?_ | with_reducible refine we_int ?_ | with_reducible refine wa_cons ?_)
    refine o2_ixL (g0 _) (atI_nat' (j := 3) rfl) ?_
    with_reducible repeat (first | refine wa_nil ?_)
    refine ⟨[.str s0, .str s3], rfl, (by show 2 ≤ 100000; decide), ?_⟩
    refine wa_cons (we_ptup ?_)
    repeat (first | with_reducible refine we_op ?_ | refine we_var rfl ?_ | with_reducible refine we_int ?_ | with_reducible refine wa_cons ?_)
    refine o2_ixL (g0 _) (atI_nat' (j := 1) rfl) ?_
    repeat (first | with_reducible refine we_op ?_ | refine we_var rfl ?_ | with_reducible refine we_int ?_ | with_reducible refine wa_cons ?_)
    refine o2_ixL (g0 _) (atI_nat' (j := 2) rfl) ?_
    with_reducible repeat (first | refine wa_nil ?_)
    refine ⟨[.str s1, .str s2], rfl, (by show 2 ≤ 100000; decide), ?_⟩
    with_reducible repeat (first | refine wa_nil ?_)
    refine ⟨[(s0, s2), (s0, s3), (s1, s2)].map pairD, rfl, (by show 3 ≤ 100000; decide), ?_⟩
    with_reducible repeat (first | refine wa_nil ?_)
    refine on_sortedPS (zss := [(s0, s2), (s0, s3), (s1, s2)].map fun p => [p.1, p.2]) lsd fun zss hz2 _ => ?_
    obtain ⟨ps2, hp2, hz2e⟩ := pairs_back hz2
    rw [hz2e]
    with_reducible repeat (first | refine wa_nil ?_)
    refine on_tuple lsd ?_
    with_reducible repeat (first | refine ws_seq ?_ | refine ws_asg ?_ | refine wg_name ?_)
    refine we_tup ?_
    repeat (first | refine we_var rfl ?_ | with_reducible refine wa_cons ?_ | with_reducible refine we_cb ?_)
    refine we_lockT h8 fun o ws => ?_
    refine we_lcF (wi_keysT ?_)
    repeat (first | refine we_var rfl ?_)
    refine ⟨td, o, ws, _, rfl, pu_same, (Str × Str), L1, pairD, pairD, fun _ => true, ?_, fun ρx sb => sb _ _ pu_same, by omega, fun n hn ρx sb => ?_, ?_⟩
    · unfold pairK
      rw [List.map_map, List.map_map]
      rfl
    · refine wgv_name (by decide) ⟨rfl, wt_yes ⟨rfl, rfl, fun _ => ?_⟩⟩
      repeat (first | refine we_var rfl ?_)
      exact ⟨rfl, rfl⟩
    rw [nocut]
    refine ⟨pu_same, ?_⟩
    rw [pu_pu]
    with_reducible repeat (first | refine wa_nil ?_)
    refine on_sortedPS (zss := L1.map fun p => [p.1, p.2]) (by rw [show (L1.map fun p => [p.1, p.2]).map ptupD = L1.map pairD by rw [List.map_map]; rfl]; exact lsd) fun zs1 hz1 _ => ?_
    obtain ⟨ps1, hp1, hz1e⟩ := pairs_back hz1
    rw [hz1e]
    with_reducible repeat (first | refine wa_nil ?_)
    refine on_tuple lsd ?_
    with_reducible repeat (first | refine wa_nil ?_)
    refine ⟨[.tup (names.map D.str), .tup (ps1.map pairD)], rfl, (by show 2 ≤ 100000; decide), ?_⟩
    with_reducible repeat (first | refine ws_seq ?_ | refine wg_name ?_)
    have hB1 : Bare names ps1 := Bare.of hasc (by omega) (by rw [hp1.length_eq]; omega) hword (hon.nodup_iff.mpr (asc_nd (lt := ltStr) ltStr_trans ltStr_ir hasc)) (fun x hx => hon.mem_iff.mp hx) fun q hq => hT1.up q (hp1.mem_iff.mp hq)
    refine ws_for (wi_tup ?_)
    refine we_tup ?_
    repeat (first | refine we_var rfl ?_ | with_reducible refine wa_cons ?_)
    refine we_tup ?_
    repeat (first | refine we_var rfl ?_ | with_reducible refine wa_cons ?_ | with_reducible refine wa_nil ?_ | with_reducible refine we_cb ?_)
    refine on_sortedSS lsd fun zs hzs hzo => ?_
    with_reducible repeat (first | refine wa_nil ?_)
    refine on_tuple lsd ?_
    repeat (first | refine we_var rfl ?_ | with_reducible refine wa_cons ?_ | with_reducible refine wa_nil ?_)
    refine ⟨[.tup (zs.map D.str), .tup (ps2.map pairD)], rfl, (by show 2 ≤ 100000; decide), ?_⟩
    refine wa_cons (we_tup ?_)
    repeat (first | refine we_var rfl ?_ | with_reducible refine we_int ?_ | with_reducible refine wa_cons ?_ | with_reducible refine we_sl ?_ | with_reducible refine wo_none ?_ | with_reducible refine wo_some ?_ | refine ⟨_, (rfl : AB.A.d (D.int _) = _), ?_⟩)
    refine o3_tup ?_
    rw [cutD_map, show (3 : Int) = ((3 : Nat) : Int) from rfl, cutA_to]
    refine wa_cons (we_tup ?_)
    with_reducible repeat (first | refine wa_nil ?_)
    refine ⟨[], rfl, (by show 0 ≤ 100000; decide), ?_⟩
    with_reducible repeat (first | refine wa_nil ?_)
    refine ⟨[.tup ((names.take 3).map D.str), .tup []], rfl, (by show 2 ≤ 100000; decide), ?_⟩
    refine wa_cons (we_tup ?_)
    refine wa_cons (we_tup ?_)
    with_reducible repeat (first | refine wa_nil ?_)
    refine ⟨[], rfl, (by show 0 ≤ 100000; decide), ?_⟩
    refine wa_cons (we_tup ?_)
    with_reducible repeat (first | refine wa_nil ?_)
    refine ⟨[], rfl, (by show 0 ≤ 100000; decide), ?_⟩
    with_reducible repeat (first | refine wa_nil ?_)
    refine ⟨[.tup [], .tup []], rfl, (by show 2 ≤ 100000; decide), ?_⟩
    with_reducible repeat (first | refine wa_nil ?_)
    refine ⟨[(names, ps1), (zs, ps2), (names.take 3, []), ([], [])].map fun b => bareD b.1 b.2, rfl, (by show 4 ≤ 100000; decide), ?_⟩
    have hBs : ∀ b, b ∈ [(names, ps1), (zs, ps2), (names.take 3, []), ([], [])] → Bare b.1 b.2 := by
      intro b hb
      simp only [List.mem_cons, List.not_mem_nil, or_false] at hb
      rcases hb with rfl | rfl | rfl | rfl
      · exact hB1
      · refine Bare.of (ord := [s0, s1, s2, s3]) (asc_of_sorted hzs hzo hsn) (by rw [hzs.length_eq]; show 4 ≤ 90; decide) (by rw [hp2.length_eq]; show 3 ≤ 200; decide) (fun x hx => hsw x (hzs.mem_iff.mp hx)) hsn (fun x hx => hzs.mem_iff.mpr hx) fun q hq => ?_
        have := hp2.mem_iff.mp hq
        simp only [List.mem_cons, List.not_mem_nil, or_false] at this
        rcases this with rfl | rfl | rfl
        · exact ⟨0, 2, by omega, rfl, rfl⟩
        · exact ⟨0, 3, by omega, rfl, rfl⟩
        · exact ⟨1, 2, by omega, rfl, rfl⟩
      · exact Bare.of (ord := []) (asc_take 3 hasc) (by rw [List.length_take]; omega) (by show 0 ≤ 200; decide) (fun x hx => hword x (List.mem_of_mem_take hx)) (by simp) (fun x hx => by simp at hx) (fun q hq => by simp at hq)
      · exact Bare.of (ord := []) (by decide) (by show 0 ≤ 90; decide) (by show 0 ≤ 200; decide) (fun x hx => by simp at hx) (by simp) (fun x hx => by simp at hx) (fun q hq => by simp at hq)
    generalize [(names, ps1), (zs, ps2), (names.take 3, []), ([], [])] = bs at hBs ⊢
    have hS10 := hS8.put (o := .dT (pairK L1)) ht0 htp
    generalize pu ρ9 td (.dT (pairK L1)) = ρ10 at hS10 ⊢
    refine ⟨_, rfl, fun i γ ρ' => St ρ p ρ' ∧ ∃ v13 v14 v15 v16 v17 v18 v19, γ = [some (.s K ns), some (.m p), some (.d (.bl wide)), some (.d (.tup (names.map D.str))), some (.d (.int names.length)), some (.d (.lst (os.map fun i => D.int (i : Nat)))), some (.d (.int most)), some (.m td), v8, v9, some (.d (.lst ([s0, s1, s2, s3].map D.str))), some (.d (.tup (ps2.map pairD))), some (.d (bareD names ps1)), v13, v14, v15, v16, v17, v18, v19, none, none, none], ?_, fun _ _ _ _ _ => trivial, ?_, ?_⟩
    · exact ⟨hS10, _, _, _, _, _, _, _, rfl⟩
    · rintro i y γ ρ' ey ⟨hS, v13, v14, v15, v16, v17, v18, v19, rfl⟩
      obtain ⟨⟨nb, pb⟩, eb, rfl⟩ := at_src ey
      have hB : Bare nb pb := hBs _ (List.mem_of_getElem? eb)
      have i0 : atI [D.tup (nb.map D.str), D.tup (pb.map pairD)] ((0 : Nat) : Int) = some (D.tup (nb.map D.str)) := atI_nat' rfl
      have i1 : atI [D.tup (nb.map D.str), D.tup (pb.map pairD)] ((1 : Nat) : Int) = some (D.tup (pb.map pairD)) := atI_nat' rfl
      clear eb ey
      refine wg_name ?_
      repeat (first | with_reducible refine ws_seq ?_ | with_reducible refine ws_asg ?_ | with_reducible refine we_op ?_ | refine we_var rfl ?_ | with_reducible refine we_int ?_ | with_reducible refine wa_cons ?_ | with_reducible refine we_call ?_)
      refine o2_ixT i0 ?_
      repeat (first | with_reducible refine we_op ?_ | refine we_var rfl ?_ | with_reducible refine we_int ?_ | with_reducible refine wa_cons ?_)
      refine o2_ixT i1 ?_
      with_reducible repeat (first | refine wa_nil ?_)
      refine ⟨nb, pb, rfl, hB, fun ah L hah hL => ?_⟩
      have hN := AhIn.of hB hL
      have hz := hB.z
      have hS1 := hS.new (o := .dT (pairK L)) hah
      have hah1 : pu ρ' ah (.dT (pairK L)) ah = some (.dT (pairK L)) := pu_same
      have hap := hS.ne hah
      generalize pu ρ' ah (.dT (pairK L)) = ρ1 at hS1 hah1 ⊢
      repeat (first | with_reducible refine ws_seq ?_ | with_reducible refine ws_asg ?_ | with_reducible refine wg_name ?_ | with_reducible refine we_op ?_ | refine we_var rfl ?_ | with_reducible refine we_int ?_ | with_reducible refine wa_cons ?_ | with_reducible refine we_call ?_)
      refine o2_ixT i0 ?_
      repeat (first | refine we_var rfl ?_ | with_reducible refine wa_cons ?_ | with_reducible refine wa_nil ?_)
      refine ⟨nb, ah, L, rfl, hah1, hN, fun M hM => ?_⟩
      repeat (first | with_reducible refine ws_seq ?_ | with_reducible refine ws_asg ?_ | with_reducible refine wg_name ?_ | with_reducible refine we_op ?_ | refine we_var rfl ?_ | with_reducible refine we_int ?_ | with_reducible refine wa_cons ?_ | with_reducible refine we_cb ?_)
      refine o2_ixT i0 ?_
      repeat (first | refine we_var rfl ?_ | with_reducible refine wa_cons ?_ | with_reducible refine wa_nil ?_ | with_reducible refine we_cb ?_ | with_reducible refine on_lenT ?_)
      refine on_lenDic ?_ ?_
      · rw [List.length_map, List.length_map]
      rw [List.length_map, List.length_map]
      repeat (first | with_reducible refine ws_seq ?_ | with_reducible refine ws_asg ?_ | with_reducible refine wg_name ?_ | with_reducible refine we_op ?_ | refine we_var rfl ?_ | with_reducible refine we_int ?_ | with_reducible refine wa_cons ?_ | with_reducible refine we_call ?_ | refine o2_I0 (fun _ => Rep.int _) ?_)
      refine o2_ixT i0 ?_
      repeat (first | refine we_var rfl ?_ | with_reducible refine wa_cons ?_ | with_reducible refine wa_nil ?_)
      refine ⟨nb, L, M, rfl, hN, hM.m, fun rs rs' hrs hre hrp hrso => ?_⟩
      obtain ⟨hcov, hcnt, hbest⟩ := counts hB hL hM hrs hre
      repeat (first | with_reducible refine ws_seq ?_ | with_reducible refine ws_asg ?_ | with_reducible refine wg_name ?_ | with_reducible refine we_op ?_ | refine we_var rfl ?_ | with_reducible refine we_int ?_ | with_reducible refine wa_cons ?_ | with_reducible refine we_call ?_)
      refine o2_ixT i0 ?_
      repeat (first | refine we_var rfl ?_ | with_reducible refine wa_cons ?_ | with_reducible refine wa_nil ?_)
      refine ⟨nb, ah, L, M, rfl, hah1, hN, hB.a, hM, fun zb hzA hzl hza => ?_⟩
      repeat (first | with_reducible refine ws_seq ?_ | with_reducible refine ws_if ?_ | with_reducible refine wg_name ?_ | with_reducible refine we_op ?_ | refine we_var rfl ?_ | with_reducible refine wa_cons ?_ | with_reducible refine wa_nil ?_ | with_reducible refine we_cb ?_ | with_reducible refine wt_test ?_ | with_reducible refine wt_or ?_ | refine ⟨_, (rfl : AB.A.d (D.bl _) = _), ?_⟩ | with_reducible refine o2_neI ?_ | with_reducible refine on_lenT ?_)
      have hzA' : Anti nb (SP pb) zb := (Anti.iff_ hL).mp hzA
      obtain ⟨ez, er, _⟩ := best_of (SP.trans pb) hzA' hcov hzl hcnt
      have erp : rs'.length = rs.length := hrp.length_eq
      rw [show ((nb.length : Int) - (M.length : Int)) = ((rs.length : Nat) : Int) by omega]
      rw [List.length_map, ez]
      refine ⟨fun c => ?_, fun _ => ?_⟩
      · exfalso
        have c' := of_decide_eq_false (by simpa using c)
        omega
      repeat (first | with_reducible refine we_op ?_ | refine we_var rfl ?_ | with_reducible refine wa_cons ?_ | with_reducible refine wa_nil ?_ | with_reducible refine we_cb ?_ | with_reducible refine wt_test ?_ | refine ⟨_, (rfl : AB.A.d (D.bl _) = _), ?_⟩ | with_reducible refine o2_neI ?_ | with_reducible refine on_lenT ?_)
      rw [List.length_map, erp]
      refine ⟨fun c => ?_, fun _ => ?_⟩
      · simp at c
      repeat (first | with_reducible refine ws_seq ?_ | with_reducible refine ws_asg ?_ | with_reducible refine ws_next ?_ | refine we_var rfl ?_ | with_reducible refine wa_cons ?_ | with_reducible refine wa_nil ?_ | with_reducible refine we_call ?_)
      refine ⟨nb, pb, rfl, hB.f, fun wz hwA hwB hwa => ?_⟩
      have ewz : wz.length = rs.length := hwB.one (SP.trans pb) hbest
      repeat (first | with_reducible refine ws_seq ?_ | with_reducible refine ws_if ?_ | with_reducible refine wg_name ?_ | with_reducible refine we_op ?_ | refine we_var rfl ?_ | with_reducible refine we_int ?_ | with_reducible refine wa_cons ?_ | with_reducible refine wt_B ?_ | with_reducible refine wt_not ?_ | with_reducible refine wt_or ?_ | with_reducible refine we_call ?_)
      refine o2_ixT i0 ?_
      repeat (first | refine we_var rfl ?_ | with_reducible refine wa_cons ?_ | with_reducible refine wa_nil ?_)
      refine ⟨nb, ah, L, _, rfl, hah1, hN, th_strs (by omega), fun b hb => ?_⟩
      have hbt : b = true := hb.mpr ⟨wz, rfl, (Anti.iff_ hL).mpr hwA, hwa⟩
      subst hbt
      repeat (first | refine ⟨_, (rfl : AB.A.d (D.bl _) = _), ?_⟩)
      refine ⟨fun z => (by cases z), fun _ => ?_⟩
      repeat (first | with_reducible refine we_op ?_ | refine we_var rfl ?_ | with_reducible refine wa_cons ?_ | with_reducible refine wa_nil ?_ | with_reducible refine we_cb ?_ | with_reducible refine wt_test ?_ | refine ⟨_, (rfl : AB.A.d (D.bl _) = _), ?_⟩ | with_reducible refine o2_neI ?_ | with_reducible refine on_lenT ?_)
      rw [List.length_map, ewz]
      refine ⟨fun c => (by simp at c), fun _ => ?_⟩
      repeat (first | with_reducible refine ws_seq ?_ | with_reducible refine ws_asg ?_ | with_reducible refine ws_next ?_ | refine we_var rfl ?_ | with_reducible refine wa_cons ?_ | with_reducible refine wa_nil ?_ | with_reducible refine we_call ?_)
      refine ⟨nb, pb, rfl, hB.f, fun cs hcA hcB hcs => ?_⟩
      have ecs : cs.length = rs.length := hcB.one (SP.trans pb) hbest
      have hfew : Few 1000 cs := fun r hr => by
        have := row_len hB.f (r := r) (fun x hx => hcA.perm.mem_iff.mp (List.mem_flatten.mpr ⟨r, hr, hx⟩)) (hcA.ch r hr)
        omega
      repeat (first | with_reducible refine ws_seq ?_ | with_reducible refine ws_if ?_ | with_reducible refine wg_name ?_ | with_reducible refine we_op ?_ | refine we_var rfl ?_ | with_reducible refine we_int ?_ | with_reducible refine wa_cons ?_ | with_reducible refine wt_B ?_ | with_reducible refine wt_not ?_ | with_reducible refine wt_or ?_ | with_reducible refine we_call ?_)
      refine o2_ixT i0 ?_
      repeat (first | refine we_var rfl ?_ | with_reducible refine wa_cons ?_ | with_reducible refine wa_nil ?_)
      refine ⟨nb, ah, L, _, rfl, hah1, hN, th2_rows (by omega) hfew, fun b hb => ?_⟩
      have hbt : b = true := hb.mpr ⟨cs, rfl, (Cover.iff_ hL).mpr hcA, cover_asc hB.f.1 hcA hcs⟩
      subst hbt
      repeat (first | refine ⟨_, (rfl : AB.A.d (D.bl _) = _), ?_⟩)
      refine ⟨fun z => (by cases z), fun _ => ?_⟩
      repeat (first | with_reducible refine we_op ?_ | refine we_var rfl ?_ | with_reducible refine wa_cons ?_ | with_reducible refine wa_nil ?_ | with_reducible refine we_cb ?_ | with_reducible refine wt_test ?_ | refine ⟨_, (rfl : AB.A.d (D.bl _) = _), ?_⟩ | with_reducible refine o2_neI ?_ | with_reducible refine on_lenT ?_)
      rw [List.length_map, ecs]
      refine ⟨fun c => (by simp at c), fun _ => ?_⟩
      with_reducible repeat (first | refine ws_seq ?_ | refine ws_if ?_ | refine ws_next ?_ | refine wa_cons ?_ | refine we_cb ?_ | refine wt_B ?_)
      have hne : nb ≠ [] → rs ≠ [] := fun h e => by
        have := hcov.perm
        rw [e] at this
        exact h (List.nil_perm.mp this)
      have hneL : nb ≠ [] → 0 < rs.length := fun h => List.length_pos_iff.mpr (hne h)
      refine we_lcF (wi_list ?_)
      repeat (first | with_reducible refine we_op ?_ | refine we_var rfl ?_ | with_reducible refine we_int ?_ | with_reducible refine wa_cons ?_ | with_reducible refine we_call ?_)
      refine o2_ixT i0 ?_
      repeat (first | refine we_var rfl ?_ | with_reducible refine wa_cons ?_ | with_reducible refine wa_nil ?_)
      refine ⟨p, nb, zb, rfl, hS1.pool, hz, by omega, fun h e => (by have := hneL h; rw [e] at ez; simp at ez; omega), fun ds ρ2 hds hdl hd2 => ?_⟩
      have hah2 : ρ2 ah = some (.dT (pairK L)) := by rw [hd2.ne hap]; exact hah1
      have hS2 := hS1.drawn hd2
      refine ⟨_, lsd, D, ds, id, fun _ => .bl false, fun _ => true, by rw [List.map_id], fun _ _ => lsd, by omega, fun n hn ρx sb => ?_, ?_⟩
      · refine wgv_name (by decide) ⟨rfl, wt_yes ⟨rfl, rfl, fun _ => ?_⟩⟩
        repeat (first | refine we_var rfl ?_ | with_reducible refine we_bl ?_ | with_reducible refine wa_cons ?_ | with_reducible refine wa_nil ?_ | with_reducible refine we_call ?_ | with_reducible refine we_notV ?_)
        refine ⟨nb, pb, ah, L, n, false, rs.length, rfl, sb _ _ hah2, hB, hL, hbest, fun z => (by cases z), fun _ => hds n hn, ?_⟩
        repeat (first | refine ⟨_, (rfl : AB.A.d (D.bl _) = _), ?_⟩)
        exact ⟨rfl, rfl⟩
      rw [nocut]
      with_reducible repeat (first | refine wa_nil ?_)
      refine on_any (bs := ds.map fun _ => false) (by rw [show ds.map (fun _ => D.bl false) = (ds.map fun _ => false).map D.bl by rw [List.map_map]; rfl]; exact lsd) ?_
      rw [none_any]
      repeat (first | refine ⟨_, (rfl : AB.A.d (D.bl _) = _), ?_⟩)
      refine ⟨fun z => (by cases z), fun _ => ?_⟩
      with_reducible repeat (first | refine ws_if ?_ | refine ws_next ?_ | refine wa_cons ?_ | refine we_cb ?_ | refine wt_B ?_)
      refine we_lcF (wi_list ?_)
      repeat (first | with_reducible refine we_op ?_ | refine we_var rfl ?_ | with_reducible refine we_int ?_ | with_reducible refine wa_cons ?_ | with_reducible refine we_call ?_)
      refine o2_ixT i0 ?_
      repeat (first | refine we_var rfl ?_ | with_reducible refine wa_cons ?_ | with_reducible refine wa_nil ?_)
      have hmr : ∀ r, r ∈ rs' → r ∈ rs := fun r hr => hrp.mem_iff.mp hr
      have hin : ∀ r, r ∈ rs' → ∀ x, x ∈ r → x ∈ nb := fun r hr x hx => hcov.perm.mem_iff.mp (List.mem_flatten.mpr ⟨r, hmr r hr, hx⟩)
      refine ⟨p, nb, rs', rfl, hS2.pool, hz, by omega, fun r hr => Nat.le_trans (row_len hB.f (fun x hx => hin r hr x hx) (hcov.ch r (hmr r hr))) hz, fun r hr z hz' => hB.ok z (hin r hr z hz'), fun h e => (by have := hneL h; rw [e] at erp; simp at erp; omega), fun ds2 ρ3 hds2 hdl2 hd3 => ?_⟩
      have hah3 : ρ3 ah = some (.dT (pairK L)) := by rw [hd3.ne hap]; exact hah2
      have hS3 := hS2.drawn hd3
      refine ⟨_, lsd, D, ds2, id, fun _ => .bl false, fun _ => true, by rw [List.map_id], fun _ _ => lsd, by omega, fun n hn ρx sb => ?_, ?_⟩
      · refine wgv_name (by decide) ⟨rfl, wt_yes ⟨rfl, rfl, fun _ => ?_⟩⟩
        repeat (first | refine we_var rfl ?_ | with_reducible refine we_bl ?_ | with_reducible refine wa_cons ?_ | with_reducible refine wa_nil ?_ | with_reducible refine we_call ?_ | with_reducible refine we_notV ?_)
        refine ⟨nb, pb, ah, L, n, true, rs.length, rfl, sb _ _ hah3, hB, hL, hbest, fun _ => hds2 n hn, fun z => (by cases z), ?_⟩
        repeat (first | refine ⟨_, (rfl : AB.A.d (D.bl _) = _), ?_⟩)
        exact ⟨rfl, rfl⟩
      rw [nocut]
      with_reducible repeat (first | refine wa_nil ?_)
      refine on_any (bs := ds2.map fun _ => false) (by rw [show ds2.map (fun _ => D.bl false) = (ds2.map fun _ => false).map D.bl by rw [List.map_map]; rfl]; exact lsd) ?_
      rw [none_any]
      repeat (first | refine ⟨_, (rfl : AB.A.d (D.bl _) = _), ?_⟩)
      refine ⟨fun z => (by cases z), fun _ => ?_⟩
      with_reducible repeat (first | refine ws_next ?_)
      exact ⟨hS3, _, _, _, _, _, _, _, rfl⟩
    · rintro γ ρ' ⟨hS, v13, v14, v15, v16, v17, v18, v19, rfl⟩
      with_reducible repeat (first | refine ws_ret ?_ | refine we_bl ?_)
      exact ⟨ρ, hS.s, k⟩
end
end K82
set_option Elab.async false
set_option linter.all false
set_option maxRecDepth 100000
set_option maxHeartbeats 8000000
namespace K82
open PySem PySem.Spec PyProof.Rows L2 Evl HB AB
/-! ### what the top has written -/
/-- of one def -/
structure Df (K : PySem.W.Frag) (x : Str) (st : Stmt) (f : Addr) : Prop where
  g : PySem.W.nsIn K mainGlobals x = some (some (.ref f))
  fn : ∃ oc od kV doc pm an cdv ct osl, K.lookup f = some ⟨oc, od, .func (PySem.W.fnOf x x (defArgs st) (defBody st) (defScope st) .none kV doc pm an cdv ct), osl⟩ ∧ PySem.W.codeIn K cdv x = true
  k : PySem.W.keepIn K (.ref f) = true
theorem Df.of {K : PySem.W.Frag} {x : Str} {st : Stmt} {f : Addr} {oc : Value} {od an : Option Addr} {osl : Array (Option Value)} {kV doc pm cdv ct : Value} (g : PySem.W.nsIn K mainGlobals x = some (some (.ref f)))
    (l : K.lookup f = some ⟨oc, od, .func (PySem.W.fnOf x x (defArgs st) (defBody st) (defScope st) .none kV doc pm an cdv ct), osl⟩) (c : PySem.W.codeIn K cdv x = true) (k : PySem.W.keepIn K (.ref f) = true) : Df K x st f := ⟨g, ⟨oc, od, kV, doc, pm, an, cdv, ct, osl, l, c⟩, k⟩
section
variable {K : PySem.W.Frag} {mg : Str → Option Value} {h : Heap}
theorem Df.fd {x : Str} {st : Stmt} {f : Addr} {ps : List Str} (c : Df K x st f) (X : K.In h) (G : h.Ns mainGlobals mg) (hb : ∀ fd, Fun K x x st f fd → Binds K fd ps []) : ∃ T : Fd K mg x st ps, T.f = f := by
  obtain ⟨oc, od, kV, doc, pm, an, cdv, ct, osl, l, e⟩ := c.fn
  have F := fun_mk (st := st) l e c.k
  exact ⟨⟨f, _, F, PySem.W.mg_of X G c.g, hb _ F⟩, rfl⟩
theorem all_mk {l : PySem.W.OpenLaw} {w : World} {fa f0 f1 f2 f3 f4 f5 f6 f7 f8 f9 f10 f11 f12 f13 f14 f15 f16 f17 f18 f19 f20 f21 f22 f23 f24 f25 f26 x0 fL : Addr} (X : K.In h) (G : h.Ns mainGlobals mg) (hfa : mg "law" = some (.ref fa))
    (d0 : Df K "ascends" sascends f0)
    (d1 : Df K "ordered_names" sordered_names f1)
    (d2 : Df K "lag_table" slag_table f2)
    (d3 : Df K "freed_by" sfreed_by f3)
    (d4 : Df K "row_links" srow_links f4)
    (d5 : Df K "behind_table" sbehind_table f5)
    (d6 : Df K "row_list" srow_list f6)
    (d7 : Df K "are_names" sare_names f7)
    (d8 : Df K "widest_of" swidest_of f8)
    (d9 : Df K "is_open" sis_open f9)
    (d10 : Df K "is_row" sis_row f10)
    (d11 : Df K "_law_draw" s_law_draw f11)
    (d12 : Df K "is_widest" sis_widest f12)
    (d13 : Df K "is_covering" sis_covering f13)
    (d14 : Df K "_law_open" s_law_open f14)
    (d15 : Df K "_law_covering" s_law_covering f15)
    (d16 : Df K "_law_pool" s_law_pool f16)
    (d17 : Df K "_law_named" s_law_named f17)
    (d18 : Df K "_law_order" s_law_order f18)
    (d19 : Df K "_law_ahead" s_law_ahead f19)
    (d20 : Df K "_law_matched" s_law_matched f20)
    (d21 : Df K "_law_rows" s_law_rows f21)
    (d22 : Df K "_law_widest" s_law_widest f22)
    (d23 : Df K "_law_said" s_law_said f23)
    (d24 : Df K "_law_sets" s_law_sets f24)
    (d25 : Df K "_law_books" s_law_books f25)
    (d26 : Df K "covering_of" scovering_of f26)
    (dL : Df K "law" slaw fL)
    (e0 : PySem.W.nsIn K mainGlobals "PlanError" = some (some (.ref x0)))
    (z_len : PySem.W.nsIn K mainGlobals "len" = some none)
    (z_isinstance : PySem.W.nsIn K mainGlobals "isinstance" = some none)
    (z_any : PySem.W.nsIn K mainGlobals "any" = some none)
    (z_all : PySem.W.nsIn K mainGlobals "all" = some none)
    (z_int : PySem.W.nsIn K mainGlobals "int" = some none)
    (z_str : PySem.W.nsIn K mainGlobals "str" = some none)
    (z_tuple : PySem.W.nsIn K mainGlobals "tuple" = some none)
    (z_list : PySem.W.nsIn K mainGlobals "list" = some none)
    (z_range : PySem.W.nsIn K mainGlobals "range" = some none)
    (z_sorted : PySem.W.nsIn K mainGlobals "sorted" = some none)
    (z_reversed : PySem.W.nsIn K mainGlobals "reversed" = some none)
    (z_enumerate : PySem.W.nsIn K mainGlobals "enumerate" = some none)
    (z_max : PySem.W.nsIn K mainGlobals "max" = some none)
    (z_min : PySem.W.nsIn K mainGlobals "min" = some none) :
    ∃ fd : FuncData, (∀ (s : Shared) (v : Value), BindsTo s fd ⟨[v], []⟩ [("script", v)]) ∧ ∀ base : Heap, K.In base → base.Ns mainGlobals mg → FnOk l.prog w K mg base CX0 7 fa fd ["script"] (spA (FLaw K)) := by
  have e := hfa.symm.trans (PySem.W.mg_of X G dL.g)
  cases e
  obtain ⟨u0, h0⟩ := d0.fd (ps := ["row"]) X G (fun fd F => F.binds fun _ _ _ _ _ _ us hl => match us, hl with | [_], _ => rfl)
  obtain ⟨u1, h1⟩ := d1.fd (ps := ["names", "ties"]) X G (fun fd F => F.binds fun _ _ _ _ _ _ us hl => match us, hl with | [_, _], _ => rfl)
  obtain ⟨u2, h2⟩ := d2.fd (ps := ["names", "ties"]) X G (fun fd F => F.binds fun _ _ _ _ _ _ us hl => match us, hl with | [_, _], _ => rfl)
  obtain ⟨u3, h3⟩ := d3.fd (ps := ["table", "came", "name", "taken"]) X G (fun fd F => F.binds fun _ _ _ _ _ _ us hl => match us, hl with | [_, _, _, _], _ => rfl)
  obtain ⟨u4, h4⟩ := d4.fd (ps := ["table"]) X G (fun fd F => F.binds fun _ _ _ _ _ _ us hl => match us, hl with | [_], _ => rfl)
  obtain ⟨u5, h5⟩ := d5.fd (ps := ["bare"]) X G (fun fd F => F.binds fun _ _ _ _ _ _ us hl => match us, hl with | [_], _ => rfl)
  obtain ⟨u6, h6⟩ := d6.fd (ps := ["table", "taken"]) X G (fun fd F => F.binds fun _ _ _ _ _ _ us hl => match us, hl with | [_, _], _ => rfl)
  obtain ⟨u7, h7⟩ := d7.fd (ps := ["thing", "known"]) X G (fun fd F => F.binds fun _ _ _ _ _ _ us hl => match us, hl with | [_, _], _ => rfl)
  obtain ⟨u8, h8⟩ := d8.fd (ps := ["bare"]) X G (fun fd F => F.binds fun _ _ _ _ _ _ us hl => match us, hl with | [_], _ => rfl)
  obtain ⟨u9, h9⟩ := d9.fd (ps := ["table", "thing"]) X G (fun fd F => F.binds fun _ _ _ _ _ _ us hl => match us, hl with | [_, _], _ => rfl)
  obtain ⟨u10, h10⟩ := d10.fd (ps := ["table", "thing"]) X G (fun fd F => F.binds fun _ _ _ _ _ _ us hl => match us, hl with | [_, _], _ => rfl)
  obtain ⟨u11, h11⟩ := d11.fd (ps := ["pool", "many"]) X G (fun fd F => F.binds fun _ _ _ _ _ _ us hl => match us, hl with | [_, _], _ => rfl)
  obtain ⟨u12, h12⟩ := d12.fd (ps := ["bare", "thing"]) X G (fun fd F => F.binds fun _ _ _ _ _ _ us hl => match us, hl with | [_, _], _ => rfl)
  obtain ⟨u13, h13⟩ := d13.fd (ps := ["bare", "thing"]) X G (fun fd F => F.binds fun _ _ _ _ _ _ us hl => match us, hl with | [_, _], _ => rfl)
  obtain ⟨u14, h14⟩ := d14.fd (ps := ["names", "ahead", "thing"]) X G (fun fd F => F.binds fun _ _ _ _ _ _ us hl => match us, hl with | [_, _, _], _ => rfl)
  obtain ⟨u15, h15⟩ := d15.fd (ps := ["names", "ahead", "thing"]) X G (fun fd F => F.binds fun _ _ _ _ _ _ us hl => match us, hl with | [_, _, _], _ => rfl)
  obtain ⟨u16, h16⟩ := d16.fd (ps := ["script"]) X G (fun fd F => F.binds fun _ _ _ _ _ _ us hl => match us, hl with | [_], _ => rfl)
  obtain ⟨u17, h17⟩ := d17.fd (ps := ["pool", "many"]) X G (fun fd F => F.binds fun _ _ _ _ _ _ us hl => match us, hl with | [_, _], _ => rfl)
  obtain ⟨u18, h18⟩ := d18.fd (ps := ["pool", "many"]) X G (fun fd F => F.binds fun _ _ _ _ _ _ us hl => match us, hl with | [_, _], _ => rfl)
  obtain ⟨u19, h19⟩ := d19.fd (ps := ["names", "ties"]) X G (fun fd F => F.binds fun _ _ _ _ _ _ us hl => match us, hl with | [_, _], _ => rfl)
  obtain ⟨u20, h20⟩ := d20.fd (ps := ["names", "ahead"]) X G (fun fd F => F.binds fun _ _ _ _ _ _ us hl => match us, hl with | [_, _], _ => rfl)
  obtain ⟨u21, h21⟩ := d21.fd (ps := ["names", "taken"]) X G (fun fd F => F.binds fun _ _ _ _ _ _ us hl => match us, hl with | [_, _], _ => rfl)
  obtain ⟨u22, h22⟩ := d22.fd (ps := ["names", "ahead", "taken"]) X G (fun fd F => F.binds fun _ _ _ _ _ _ us hl => match us, hl with | [_, _, _], _ => rfl)
  obtain ⟨u23, h23⟩ := d23.fd (ps := ["bare", "ahead", "many", "thing", "rows"]) X G (fun fd F => F.binds fun _ _ _ _ _ _ us hl => match us, hl with | [_, _, _, _, _], _ => rfl)
  obtain ⟨u24, h24⟩ := d24.fd (ps := ["pool", "names", "best"]) X G (fun fd F => F.binds fun _ _ _ _ _ _ us hl => match us, hl with | [_, _, _], _ => rfl)
  obtain ⟨u25, h25⟩ := d25.fd (ps := ["pool", "names", "best"]) X G (fun fd F => F.binds fun _ _ _ _ _ _ us hl => match us, hl with | [_, _, _], _ => rfl)
  obtain ⟨u26, h26⟩ := d26.fd (ps := ["bare"]) X G (fun fd F => F.binds fun _ _ _ _ _ _ us hl => match us, hl with | [_], _ => rfl)
  let T : TxtB K mg := { z_len := PySem.W.mg_none_of X G z_len, z_isinstance := PySem.W.mg_none_of X G z_isinstance, z_any := PySem.W.mg_none_of X G z_any, z_all := PySem.W.mg_none_of X G z_all, z_int := PySem.W.mg_none_of X G z_int, z_str := PySem.W.mg_none_of X G z_str, z_tuple := PySem.W.mg_none_of X G z_tuple, z_list := PySem.W.mg_none_of X G z_list, z_range := PySem.W.mg_none_of X G z_range, z_sorted := PySem.W.mg_none_of X G z_sorted, z_reversed := PySem.W.mg_none_of X G z_reversed, z_enumerate := PySem.W.mg_none_of X G z_enumerate, z_max := PySem.W.mg_none_of X G z_max, z_min := PySem.W.mg_none_of X G z_min, dascends := u0, dordered_names := u1, dlag_table := u2, dfreed_by := u3, drow_links := u4, dbehind_table := u5, drow_list := u6, dare_names := u7, dwidest_of := u8, dis_open := u9, dis_row := u10, d_law_draw := u11, dis_widest := u12, dis_covering := u13, d_law_open := u14, d_law_covering := u15, d_law_pool := u16, d_law_named := u17, d_law_order := u18, d_law_ahead := u19, d_law_matched := u20, d_law_rows := u21, d_law_widest := u22, d_law_said := u23, d_law_sets := u24, d_law_books := u25, dcovering_of := u26, cPlanError := x0, g_PlanError := PySem.W.mg_of X G e0 }
  obtain ⟨oc, od, kV, doc, pm, an, cdv, ct, osl, l', e'⟩ := dL.fn
  have FL := fun_mk (st := slaw) l' e' dL.k
  exact ⟨_, fun s v => .of_eq rfl, fun base _ _ => ok_law FL T⟩
end
theorem at_top {K : PySem.W.Frag} {H : Hp} {a : Addr} {ns : List Int} (h : SqL K H a (ns.map V.int)) : spA (FLaw K) [.ref a] H (fun v _ => v = .bl true) fun _ _ _ => False :=
  ⟨fun _ => none, [.s K ns], fun x _ => x = .d (.bl true), (fun _ _ e => by cases e), .cons ⟨a, rfl, h⟩ .nil, ⟨ns, rfl, rfl⟩, fun H' ρ' v x _ _ rv e => by
    subst e
    cases rv
    rfl⟩
theorem walk {l : PySem.W.OpenLaw} {q : Program} {loose : List Str} {XP : (Str → Option Value) → Heap → Prop} {YP : World → Heap → Prop} {d : DefRec} {K : Params → PySem.W.Frag} (hn : l.most = some 63) (hdf : d.params.defaults = [])
    (hY : ∀ (w : World) (h : Heap), YP w h → (K w.params).In h)
    (F : ∀ (w : World) (mg : Str → Option Value) (fa : Addr) (h : Heap), (K w.params).In h → h.Ns mainGlobals mg → mg d.name = some (.ref fa) →
      ∃ fd : FuncData, (∀ (s : Shared) (u : Value), BindsTo s fd ⟨[u], []⟩ [("script", u)]) ∧ ∀ base : Heap, (K w.params).In base → base.Ns mainGlobals mg → FnOk l.prog w (K w.params) mg base CX0 7 fa fd ["script"] (spA (FLaw (K w.params)))) :
    PySem.W.WalkO q loose XP YP l.row.toRowW d [] (fun f vs => PySem.call f vs) :=
  L2.walk_of (n := 63) (k := 7) (x := "script") (CX := fun _ => CX0) (sp := fun w => spA (FLaw (K w.params))) hn (by decide) hdf ⟨rfl, by decide, by decide⟩ hY F (fun _ _ a ns hl _ hS => at_top hS) fun _ _ _ _ _ z => z
end K82
set_option Elab.async false
open PySem PySem.W PyProof.Rows
set_option maxRecDepth 100000 in
set_option maxHeartbeats 0 in
theorem PySem.Challenge.cw_donebytwo_k82_whole_widest_and_coverings_holds : PySem.Challenge.rw_donebytwo_k82_whole_widest_and_coverings.Holds := by
  w_on; o_law; k_head; (case hw => w_witness2)
  k_fill
  refine K82.walk (l := PySem.Challenge.rw_donebytwo_k82_whole_widest_and_coverings) rfl rfl (fun w h Y => PySem.W.kIn_of Y) ?F
  case F =>
    intro w mg fa h KX G hmg
    refine' K82.all_mk KX G hmg ?d0 ?d1 ?d2 ?d3 ?d4 ?d5 ?d6 ?d7 ?d8 ?d9 ?d10 ?d11 ?d12 ?d13 ?d14 ?d15 ?d16 ?d17 ?d18 ?d19 ?d20 ?d21 ?d22 ?d23 ?d24 ?d25 ?d26 ?dL ?e0 ?z_len ?z_isinstance ?z_any ?z_all ?z_int ?z_str ?z_tuple ?z_list ?z_range ?z_sorted ?z_reversed ?z_enumerate ?z_max ?z_min
    (case d0 => refine' K82.Df.of ?g ?l ?c ?k; (case g => k_is); (case l => k_is); (case c => k_is); (case k => k_is))
    (case d1 => refine' K82.Df.of ?g ?l ?c ?k; (case g => k_is); (case l => k_is); (case c => k_is); (case k => k_is))
    (case d2 => refine' K82.Df.of ?g ?l ?c ?k; (case g => k_is); (case l => k_is); (case c => k_is); (case k => k_is))
    (case d3 => refine' K82.Df.of ?g ?l ?c ?k; (case g => k_is); (case l => k_is); (case c => k_is); (case k => k_is))
    (case d4 => refine' K82.Df.of ?g ?l ?c ?k; (case g => k_is); (case l => k_is); (case c => k_is); (case k => k_is))
    (case d5 => refine' K82.Df.of ?g ?l ?c ?k; (case g => k_is); (case l => k_is); (case c => k_is); (case k => k_is))
    (case d6 => refine' K82.Df.of ?g ?l ?c ?k; (case g => k_is); (case l => k_is); (case c => k_is); (case k => k_is))
    (case d7 => refine' K82.Df.of ?g ?l ?c ?k; (case g => k_is); (case l => k_is); (case c => k_is); (case k => k_is))
    (case d8 => refine' K82.Df.of ?g ?l ?c ?k; (case g => k_is); (case l => k_is); (case c => k_is); (case k => k_is))
    (case d9 => refine' K82.Df.of ?g ?l ?c ?k; (case g => k_is); (case l => k_is); (case c => k_is); (case k => k_is))
    (case d10 => refine' K82.Df.of ?g ?l ?c ?k; (case g => k_is); (case l => k_is); (case c => k_is); (case k => k_is))
    (case d11 => refine' K82.Df.of ?g ?l ?c ?k; (case g => k_is); (case l => k_is); (case c => k_is); (case k => k_is))
    (case d12 => refine' K82.Df.of ?g ?l ?c ?k; (case g => k_is); (case l => k_is); (case c => k_is); (case k => k_is))
    (case d13 => refine' K82.Df.of ?g ?l ?c ?k; (case g => k_is); (case l => k_is); (case c => k_is); (case k => k_is))
    (case d14 => refine' K82.Df.of ?g ?l ?c ?k; (case g => k_is); (case l => k_is); (case c => k_is); (case k => k_is))
    (case d15 => refine' K82.Df.of ?g ?l ?c ?k; (case g => k_is); (case l => k_is); (case c => k_is); (case k => k_is))
    (case d16 => refine' K82.Df.of ?g ?l ?c ?k; (case g => k_is); (case l => k_is); (case c => k_is); (case k => k_is))
    (case d17 => refine' K82.Df.of ?g ?l ?c ?k; (case g => k_is); (case l => k_is); (case c => k_is); (case k => k_is))
    (case d18 => refine' K82.Df.of ?g ?l ?c ?k; (case g => k_is); (case l => k_is); (case c => k_is); (case k => k_is))
    (case d19 => refine' K82.Df.of ?g ?l ?c ?k; (case g => k_is); (case l => k_is); (case c => k_is); (case k => k_is))
    (case d20 => refine' K82.Df.of ?g ?l ?c ?k; (case g => k_is); (case l => k_is); (case c => k_is); (case k => k_is))
    (case d21 => refine' K82.Df.of ?g ?l ?c ?k; (case g => k_is); (case l => k_is); (case c => k_is); (case k => k_is))
    (case d22 => refine' K82.Df.of ?g ?l ?c ?k; (case g => k_is); (case l => k_is); (case c => k_is); (case k => k_is))
    (case d23 => refine' K82.Df.of ?g ?l ?c ?k; (case g => k_is); (case l => k_is); (case c => k_is); (case k => k_is))
    (case d24 => refine' K82.Df.of ?g ?l ?c ?k; (case g => k_is); (case l => k_is); (case c => k_is); (case k => k_is))
    (case d25 => refine' K82.Df.of ?g ?l ?c ?k; (case g => k_is); (case l => k_is); (case c => k_is); (case k => k_is))
    (case d26 => refine' K82.Df.of ?g ?l ?c ?k; (case g => k_is); (case l => k_is); (case c => k_is); (case k => k_is))
    (case dL => refine' K82.Df.of ?g ?l ?c ?k; (case g => k_is); (case l => k_is); (case c => k_is); (case k => k_is))
    (case e0 => k_is)
    (case z_len => k_is)
    (case z_isinstance => k_is)
    (case z_any => k_is)
    (case z_all => k_is)
    (case z_int => k_is)
    (case z_str => k_is)
    (case z_tuple => k_is)
    (case z_list => k_is)
    (case z_range => k_is)
    (case z_sorted => k_is)
    (case z_reversed => k_is)
    (case z_enumerate => k_is)
    (case z_max => k_is)
    (case z_min => k_is)
#print axioms PySem.Challenge.cw_donebytwo_k82_whole_widest_and_coverings_holds
