import PyProof.Rows.All
import Wide.All
import OpenK.AllK
import Wide.FinOn
import PySem.Challenge.RW_dayled_k89_errors_of_days
import HandS.ForMost
import HandS.Exc
import HandS.ExcOwn
import HandS.ExcInit
import HandS.ExcField
import HandS.ExcIs
import HandS.ExcValue
import HandS.ExcCtx
import HandS.Hot
import HandS.HotCalls
import HandS.IsInst
import HandS.Defaults
import KE.KExcIs
import HandS.HeadHook1
import HandS.ForDict
import HandS.More
import HandS.Head0
import HandS.Head1
import HandS.Head2
import HandS.HeadEnd
import HandS.HeadHook2
import HandS.HeadHook3
import HandS.HeadHook4
set_option Elab.async false
set_option linter.all false
set_option maxRecDepth 100000
set_option maxHeartbeats 4000000
/-! k89, part a: an error of one's own made as a value, by position and by name. -/
namespace PySem
namespace E9
open HandSPX PySem.W PySem.Calls PyProof.Rows
section
variable {M : Model} {A : Around} {E : Value → Shared → Prop} {h : Heap} {g : Array GenState} {d : Drawn} {t : Nat} {os : OsState}
variable {nm q : Str} {C N : Addr} {bs bm bmB : List Value} {hdct : Bool} {sn : List Str} {sub : List Value} {ab : Bool} {col : Option Bool} {dd : Option Addr} {k0 k1 k2 k3 k5 : Option Value} {B newId initId : String} {z : Str} {v : Value}
/-- the look at C.__new__(C, z = v) -/
theorem check_new_kw (F : ExcBaseFacts B newId initId bmB) (hT : ∀ X : String, bm.contains (.type X) = bmB.contains (.type X)) {Q : Unit → Shared → Prop}
    (hC : h.get? C = some (excClassObj nm q C N bs bm hdct sn sub ab col dd k0 k1 k2 k3 k5 newId)) (hq : Q () ⟨h, g, d, t, os⟩) : wpAny M A (checkBuiltinCall newId ⟨[.ref C], [(z, v)]⟩) Q E ⟨h, g, d, t, os⟩ := by
  have hcont : (Value.ref C :: bm).contains (.type B) = true := by rw [List.contains_cons, hT, F.hasB, Bool.or_true]
  have hstar := F.noStar
  simp only [checkBuiltinCall, F.newKind, F.newSplit, F.newRow]
  repeat (first | refine wpAny_loadPart_at hC ?_ | (refine wpAny_isSubtype_exc hC ?_; rw [hcont]) | refine wpAny_staticBase_exc hC ?_ | refine wpAny_madeBy_exc hC ?_ | simp only [bne_self_eq_false, Bool.false_eq_true, if_false] | wp_step)
  exact hq
end
section
variable {prog : Program} {w : World} {A : Around} {E : Value → Shared → Prop} {R : Result → Shared → Prop} {h : Heap} {g : Array GenState} {d : Drawn} {t : Nat} {os : OsState}
variable {nm q : Str} {C N : Addr} {bs bm bmB : List Value} {hdct : Bool} {sn : List Str} {sub : List Value} {ab : Bool} {col : Option Bool} {dd : Option Addr} {k0 k1 k2 k3 k5 : Option Value} {B newId initId : String} {z : Str} {v : Value}
theorem new_kw (F : ExcBaseFacts B newId initId bmB) (hT : ∀ X : String, bm.contains (.type X) = bmB.contains (.type X))
    (hC : h.get? C = some (excClassObj nm q C N bs bm hdct sn sub ab col dd k0 k1 k2 k3 k5 newId))
    (hq : R (.ok (.ret (.ref (h.objs.size + 1)))) ⟨(h.push { cls := .type "tuple", data := .seq ([] : List Value).toArray }).push
      { cls := .ref C, data := .fields #[.ref h.objs.size, .none, .none, .none, .bool false, .none] }, g, d, t, os⟩) :
    codeAny (model prog w) A (.builtin newId ⟨[.ref C], [(z, v)]⟩) R ⟨h, g, d, t, os⟩ := by
  have hends := F.ends
  have hcB : (Value.ref C :: bm).contains (.type B) = true := by rw [List.contains_cons, hT, F.hasB, Bool.or_true]
  have hcA : (Value.ref C :: bm).contains (.type "AttributeError") = false := by rw [List.contains_cons, hT, F.noAttr]; rfl
  have hcN : (Value.ref C :: bm).contains (.type "NameError") = false := by rw [List.contains_cons, hT, F.noName]; rfl
  have hrest : ([] : List Value).length ≤ sizeLine := Nat.zero_le _
  refine codeAny_builtinAt F.entry ?_
  unfold Builtin.«BaseException.__new__»
  refine wpAt_bind ?_
  show wpAt _ _ _ (stack >>= _) _ _ _
  refine wpAt_bind (wpAt_stack fun p below => wpAt_of_wpAny ?_)
  wp_walk
  refine wpAt_of_wpAny ?_
  rw [F.owner]
  repeat (first | with_reducible refine wpAny_madeHere_exc F.canon hC ?_ | with_reducible refine wpAny_loadPart_at hC ?_ | (with_reducible refine wpAny_isSubtype_exc hC ?_; first | rw [hcB] | rw [hcA] | rw [hcN]) | wp_step)
  show R _ _
  rw [Heap.size_push]
  exact hq
theorem type_call_kw (F : ExcBaseFacts B newId initId bmB) (hT : ∀ X : String, bm.contains (.type X) = bmB.contains (.type X)) {fI : Addr} {Q : Fin → Shared → Prop}
    (hC : h.get? C = some (excClassObj nm q C N bs bm hdct sn sub ab col dd k0 k1 k2 k3 k5 newId))
    (hi : W.Looks (model prog w) h (typeLookup (.ref C) "__init__") (some (.ref fI))) (hb : ∀ self, W.Looks (model prog w) h (bindSpecial (.ref fI) self) (.ref fI, [self]))
    (hq : codeAny (model prog w) A (.call (.ref fI) ⟨[.ref (h.objs.size + 1)], [(z, v)]⟩)
      (fun r s' => match r with | .ok (.ret v) => v = .none ∧ Q (.done (.ret (.ref (h.objs.size + 1)))) s' | .ok _ => False | .error e => E e s')
      ⟨(h.push (W.kdv_tup [])).push (excO C h.objs.size), g, d, t, os⟩) :
    wpAny (model prog w) A (Builtin.«type.__call__» ⟨[.ref C], [(z, v)]⟩) Q E ⟨h, g, d, t, os⟩ := by
  repeat (first | with_reducible refine wpAny_loadPart_at hC ?_ | with_reducible refine wpAny_madeBy_exc hC ?_ | wp_step)
  refine codeAny_call_builtin_code (Code.quiet_builtin _ F.quiet) (check_new_kw F hT hC ?_)
  refine new_kw F hT hC ?_
  show wpAny _ _ _ _ _ _
  have k : ∀ b o, h.get? b = some o → ((h.push (W.kdv_tup [])).push (excO C h.objs.size)).get? b = some o := fun b o e => Heap.get?_push_of_some _ (Heap.get?_push_of_some _ e)
  have hC₁ := k _ _ hC
  have hget : ((h.push (W.kdv_tup [])).push (excO C h.objs.size)).get? (h.objs.size + 1) = some (excO C h.objs.size) := by heap_get
  have hcC : (Value.ref C :: bm).contains (.ref C) = true := by simp
  have i1 := hi.keeps k
  have b1 := (hb (.ref (h.objs.size + 1))).keeps k
  unfold isInstance
  repeat (first | with_reducible refine wpAny_loadPart_at hget ?_ | (with_reducible refine wpAny_isSubtype_exc hC₁ ?_; rw [hcC]) | wp_step)
  show wpAny _ _ (typeLookup (.ref C) _) _ _ _
  refine i1.at ?_
  refine wpAny_holding (wpAny_bind (b1.at ?_))
  refine wpAny_bind (wpAny_call (codeAny_mono hq fun r s' z => ?_))
  rcases r with e | (v | _ | _ | _) <;> first | exact z | exact z.elim | skip
  obtain ⟨rfl, z⟩ := z
  first
    | exact wpAny_pure (wpAny_pure z)
    | (wp_walk; exact z)
theorem check_tc_kw {M : Model} {Q : Unit → Shared → Prop} (hC : h.get? C = some (excClassObj nm q C N bs bm hdct sn sub ab col dd k0 k1 k2 k3 k5 newId))
    (hq : Q () ⟨h, g, d, t, os⟩) : wpAny M A (checkBuiltinCall "type.__call__" ⟨[.ref C], [(z, v)]⟩) Q E ⟨h, g, d, t, os⟩ := by
  have f3 := tc_sub
  have hT : (⟨h, g, d, t, os⟩ : Shared).TypeIs (.ref C) "type" := ⟨_, hC, rfl⟩
  have typ : W.Looks M h (isInstance (.ref C) (.type "type")) true := ((Looks.ld hC).andThen .now).andThen (Looks.of_pure tc_sub)
  exact check_slot tc_kind tc_split typ (tc_args _ _ _) hq
theorem call_kw (F : ExcBaseFacts B newId initId bmB) (hT : ∀ X : String, bm.contains (.type X) = bmB.contains (.type X)) {fI : Addr}
    (hC : h.get? C = some (excClassObj nm q C N bs bm hdct sn sub ab col dd k0 k1 k2 k3 k5 newId))
    (hi : W.Looks (model prog w) h (typeLookup (.ref C) "__init__") (some (.ref fI))) (hb : ∀ self, W.Looks (model prog w) h (bindSpecial (.ref fI) self) (.ref fI, [self]))
    (hq : codeAny (model prog w) (A.under (.builtin "type.__call__" ⟨[.ref C], [(z, v)]⟩)) (.call (.ref fI) ⟨[.ref (h.objs.size + 1)], [(z, v)]⟩) (W.InitBack (h.objs.size + 1) R)
      ⟨(h.push (W.kdv_tup [])).push (excO C h.objs.size), g, d, t, os⟩) :
    codeAny (model prog w) A (.call (.ref C) ⟨[], [(z, v)]⟩) R ⟨h, g, d, t, os⟩ := by
  have f1 := tc_lookup
  have f2 := tc_bind (.ref C)
  have hTy : (⟨h, g, d, t, os⟩ : Shared).TypeIs (.ref C) "type" := ⟨_, hC, rfl⟩
  refine codeAny_of_tree ?_
  show wpAny _ _ (callAny (.ref C) _) _ _ _
  repeat (any_goals (first | assumption | with_reducible refine wpAny_loadPart_at hC ?_ | wp_step))
  refine ⟨rfl, ?_⟩
  refine codeAny_call_builtin_at (Code.quiet_builtin _ (by decide +kernel)) entry_typeCall (check_tc_kw hC (type_call_kw F hT hC hi hb ?_))
  refine codeAny_mono hq fun r s' z => ?_
  rcases r with e | (v | _ | _ | _) <;> exact z
end
end E9
end PySem

set_option Elab.async false
set_option linter.all false
set_option maxRecDepth 100000
set_option maxHeartbeats 4000000
/-! k89, part b: errors as values: made, a field read, isinstance. -/
namespace L2.E9
open PySem PySem.Spec PyProof.Rows L2
/-- at a stands an error of the class at C, its one field f is v -/
def ErAt (H : Hp) (a C : Addr) (f : Str) (v : V) : Prop := ∃ d, H a = some (exo a C (some d)) ∧ H d = some (exd d [(f, v)])
theorem ErAt.same {H H' : Hp} {a C : Addr} {f : Str} {v : V} (e : ErAt H a C f v) (s : Same H H') : ErAt H' a C f v := by
  obtain ⟨d, h1, h2⟩ := e
  exact ⟨d, s _ _ h1, s _ _ h2⟩
/-- __init__(self, f): self.f = f -/
def spIni (K : PySem.W.Frag) (C : Addr) (f : Str) : Sp := fun vs H Q _ => ∃ (a : Addr) (v : V), vs = [.ref a, v] ∧ OexC K C ∧ PySem.W.findIn K (.ref C) f = some none ∧ H a = some (exo a C none) ∧
  ∀ d, H d = none → d ≠ a → Q .non (upd (upd H d (exd d [(f, v)])) a (exo a C (some d)))
section
variable {P : Program} {w : World} {K : PySem.W.Frag} {mg : Str → Option Value} {base : Heap}
theorem ok_ini {C fi : Addr} {fd : FuncData} {qual x : Str} {args : Arguments} {body : List Stmt} {sc : Scope} {q1 q2 q3 q4 : Pos} (F : FunD K "__init__" qual args body sc [] [] fi fd) (hb : body = [.Assign [.Attribute (.Name "self" q1) x q2] (.Name x q3) q4]) (S : FnScope ["self", x] ["self", x] sc)
    (v0 : Vis sc "self") (v1 : Vis sc x) (hd : (x == ("__debug__" : Str)) = false) (hc : (x == ("__classdict__" : Str)) = false) : FnOk P w K mg base CX0 1 fi fd ["self", x] (spIni K C x) := by
  refine F.ok S (fun vs H Q E h => ?_) (fun cdv A outer s H vs Q E hr h => ⟨tOst K x (tVar 0) (tVar 1), PSs.nox ?_, ?_⟩)
  · obtain ⟨a, v, rfl, _⟩ := h
    rfl
  · rw [hb]
    exact pss_one (ps_ost (pv 0 rfl v0 (by decide) (by decide)) (pv 1 rfl v1 hd hc))
  · obtain ⟨a, v, rfl, T, hno, ha, hQ⟩ := h
    exact ⟨v, rfl, .ref a, rfl, a, C, rfl, T, hno, .inl ⟨ha, fun d h1 h2 => hQ d h1 h2⟩⟩
end
/-- what the written part says of an error's class: at C, its __init__ at fI, its field f -/
structure ErC (K : PySem.W.Frag) (C fI : Addr) (f : Str) : Prop where
  T : OexC K C
  hno : PySem.W.findIn K (.ref C) f = some none
  iC : PySem.W.findIn K (.ref C) "__init__" = some (some (.ref fI))
  tI : PySem.W.typeIn K (.ref fI) = some (.type "function")
section
variable {X : Cx} {pins : List (Addr × Obj)} {σ : St} {H : Hp} {s : Shared} {C fI : Addr} {f : Str} {CX : CXT} {k : Nat} {fd : FuncData} {Q : VK} {u : Value} {v : V}
theorem upd3 {a d : Addr} {o1 o2 o3 : HO} (ha : H a = none) (hd : upd H a o1 d = none) (da : d ≠ a) : Same H (upd (upd (upd H a o1) d o2) a o3) := fun b o e => by
  rw [upd_ne da] at hd
  rw [upd_ne (ne_of_none e ha), upd_ne (ne_of_none e hd), upd_ne (ne_of_none e ha)]
  exact e
theorem run_mk (T : ErC X.K C fI f) (F1 : FnOk X.prog X.w X.K X.mg X.base CX k fI fd ["self", f] (spIni X.K C f)) (hr : Room (k + 1) X.A) (hb : Binds X.K fd ["self", f] []) (hx : Passes CX X (fun _ _ _ => False))
    (I : Inv X pins σ H s) (r : RelV v u) (h : ∀ a H2, H a = none → ErAt H2 a C f v → Same H H2 → Q (.ref a) H2) : wpAny (model X.prog X.w) X.A (call (.ref C) [u]) (EP X pins σ Q) X.xe s := by
  obtain ⟨nm, q, N, bs, bm, sn, sub, ab, col, dd, k0, k1, k2, k3, k5, hC, hbm⟩ := T.T.cls
  obtain ⟨hp, g, dr, tk, os⟩ := s
  have hsz : hp.objs.size ≤ hp.objs.size + 1 := Nat.le_succ _
  have hn : H (hp.objs.size + 1) = none := I.hok.fresh hsz
  have kk : ∀ b o, hp.get? b = some o → ((hp.push (PySem.W.kdv_tup [u])).push (PySem.HandSPX.excO C hp.objs.size)).get? b = some o := fun b o e => Heap.get?_push_of_some _ (Heap.get?_push_of_some _ e)
  have hget : ((hp.push (PySem.W.kdv_tup [u])).push (PySem.HandSPX.excO C hp.objs.size)).get? (hp.objs.size + 1) = some (PySem.HandSPX.excO C hp.objs.size) := by heap_get
  have I2 : Inv X pins σ (upd H (hp.objs.size + 1) (exo (hp.objs.size + 1) C none)) ⟨(hp.push (PySem.W.kdv_tup [u])).push (PySem.HandSPX.excO C hp.objs.size), g, dr, tk, os⟩ :=
    I.laid (t' := tk) (a := hp.objs.size + 1) (o := exo (hp.objs.size + 1) C none) (h' := (hp.push (PySem.W.kdv_tup [u])).push (PySem.HandSPX.excO C hp.objs.size)) kk hsz (exo_ok hget)
  have r2 : Vals [V.ref (hp.objs.size + 1), v] [Value.ref (hp.objs.size + 1), u] := .cons rfl (.cons r .nil)
  have hq : spIni X.K C f [V.ref (hp.objs.size + 1), v] (upd H (hp.objs.size + 1) (exo (hp.objs.size + 1) C none)) (fun v' H2 => v' = .non ∧ Q (.ref (hp.objs.size + 1)) H2) (fun _ _ _ => False) :=
    ⟨_, v, rfl, T.T, T.hno, upd_same, fun d hd da => ⟨rfl, h _ _ hn ⟨d, upd_same, by rw [upd_ne da]; exact upd_same⟩ (upd3 hn hd da)⟩⟩
  refine wpAny_call (PySem.HandSPX.call_own F.excBase_ValueError (fun Y => PySem.HandSPX.refsVE_contains Y bm hbm) (I.kIn _ _ hC) (PySem.W.looks_findIn I.kIn T.iC) (fun self => PySem.W.bind_fn I.kIn self T.tI) (by show 1 ≤ sizeLine; rw [sizeLine_eq]; omega)
    (codeAny_mono (F1.run _ X.stack _ _ ⟨[Value.ref (hp.objs.size + 1), u], []⟩ [Value.ref (hp.objs.size + 1), u] _ _ (fun _ _ _ => False) (hr.make C [u] []) (I2.env0.make C [u] []) (hb _ [Value.ref (hp.objs.size + 1), u] I2.kIn rfl) r2 hq) fun r s' hq' => ?_))
  cases r with
  | error er => exact hx pins σ _ _ er s' I2 hq'
  | ok fl =>
    cases fl with
    | ret u =>
      obtain ⟨v', H', I3, rv, ev, q3⟩ := I2.after hq'
      subst ev
      exact ⟨rv, ⟨V.ref (hp.objs.size + 1), H', I3, rfl, q3⟩⟩
    | next => exact False.elim hq'
    | brk => exact False.elim hq'
    | cont => exact False.elim hq'
theorem run_mkk (T : ErC X.K C fI f) (F1 : FnOk X.prog X.w X.K X.mg X.base CX k fI fd ["self", f] (spIni X.K C f)) (hr : Room (k + 1) X.A) (hb : ∀ (s : Shared) (a u : Value), BindsTo s fd ⟨[a], [(f, u)]⟩ [("self", a), (f, u)]) (hx : Passes CX X (fun _ _ _ => False))
    (I : Inv X pins σ H s) (r : RelV v u) (h : ∀ a H2, H a = none → ErAt H2 a C f v → Same H H2 → Q (.ref a) H2) : wpAny (model X.prog X.w) X.A (call (.ref C) [] [(f, u)]) (EP X pins σ Q) X.xe s := by
  obtain ⟨nm, q, N, bs, bm, sn, sub, ab, col, dd, k0, k1, k2, k3, k5, hC, hbm⟩ := T.T.cls
  obtain ⟨hp, g, dr, tk, os⟩ := s
  have hsz : hp.objs.size ≤ hp.objs.size + 1 := Nat.le_succ _
  have hn : H (hp.objs.size + 1) = none := I.hok.fresh hsz
  have kk : ∀ b o, hp.get? b = some o → ((hp.push (PySem.W.kdv_tup [])).push (PySem.HandSPX.excO C hp.objs.size)).get? b = some o := fun b o e => Heap.get?_push_of_some _ (Heap.get?_push_of_some _ e)
  have hget : ((hp.push (PySem.W.kdv_tup [])).push (PySem.HandSPX.excO C hp.objs.size)).get? (hp.objs.size + 1) = some (PySem.HandSPX.excO C hp.objs.size) := by heap_get
  have I2 : Inv X pins σ (upd H (hp.objs.size + 1) (exo (hp.objs.size + 1) C none)) ⟨(hp.push (PySem.W.kdv_tup [])).push (PySem.HandSPX.excO C hp.objs.size), g, dr, tk, os⟩ :=
    I.laid (t' := tk) (a := hp.objs.size + 1) (o := exo (hp.objs.size + 1) C none) (h' := (hp.push (PySem.W.kdv_tup [])).push (PySem.HandSPX.excO C hp.objs.size)) kk hsz (exo_ok hget)
  have r2 : Vals [V.ref (hp.objs.size + 1), v] [Value.ref (hp.objs.size + 1), u] := .cons rfl (.cons r .nil)
  have hq : spIni X.K C f [V.ref (hp.objs.size + 1), v] (upd H (hp.objs.size + 1) (exo (hp.objs.size + 1) C none)) (fun v' H2 => v' = .non ∧ Q (.ref (hp.objs.size + 1)) H2) (fun _ _ _ => False) :=
    ⟨_, v, rfl, T.T, T.hno, upd_same, fun d hd da => ⟨rfl, h _ _ hn ⟨d, upd_same, by rw [upd_ne da]; exact upd_same⟩ (upd3 hn hd da)⟩⟩
  refine wpAny_call (PySem.E9.call_kw F.excBase_ValueError (fun Y => PySem.HandSPX.refsVE_contains Y bm hbm) (I.kIn _ _ hC) (PySem.W.looks_findIn I.kIn T.iC) (fun self => PySem.W.bind_fn I.kIn self T.tI)
    (codeAny_mono (F1.run _ X.stack _ _ ⟨[Value.ref (hp.objs.size + 1)], [(f, u)]⟩ [Value.ref (hp.objs.size + 1), u] _ _ (fun _ _ _ => False) (hr.make C [] [(f, u)]) (I2.env0.make C [] [(f, u)]) (hb _ _ _) r2 hq) fun r s' hq' => ?_))
  cases r with
  | error er => exact hx pins σ _ _ er s' I2 hq'
  | ok fl =>
    cases fl with
    | ret u =>
      obtain ⟨v', H', I3, rv, ev, q3⟩ := I2.after hq'
      subst ev
      exact ⟨rv, ⟨V.ref (hp.objs.size + 1), H', I3, rfl, q3⟩⟩
    | next => exact False.elim hq'
    | brk => exact False.elim hq'
    | cont => exact False.elim hq'
end
/-- C(e): a new error -/
def tMk (C : Addr) (f : Str) (ta : TE) : TE := fun σ H Q => ta σ H fun v H1 => ∀ a H2, H1 a = none → ErAt H2 a C f v → Same H1 H2 → Q (.ref a) H2
section
variable {X : Cx} {C fI : Addr} {f x : Str} {CX : CXT} {k : Nat} {fd : FuncData} {e : Expr} {ta : TE} {p pos : Pos}
theorem pe_mk (T : ErC X.K C fI f) (F1 : FnOk X.prog X.w X.K X.mg X.base CX k fI fd ["self", f] (spIni X.K C f)) (hr : Room (k + 1) X.A) (hb : Binds X.K fd ["self", f] []) (hx : Passes CX X (fun _ _ _ => False)) (hg : Gl X x) (hm : X.mg x = some (.ref C)) (kC : PySem.W.keepIn X.K (.ref C) = true) (ha : PE X e ta)
    (hdb : (x == ("__debug__" : Str)) = false := by decide) (he : starEach [e] X.env = (false, eval e X.env) :: starEach [] X.env := by rfl) (hpl : (backTo pos (starEach [] X.env)).any (·.1) = false := by rfl) :
    PE X (.Call (.Name x p) [e] [] pos) (tMk C f ta) := by
  refine ⟨fun pins s σ H Q I h => ?_⟩
  refine wpAny_Call_Name_kw (ld_glob I hg hm ?_ hdb)
  have hA : PA X [e] (tCons ta tNil) := pa_cons ha pa_nil he
  refine PySem.W.callWith_K (h₀ := X.base) I.ok.mod.kin kC (thn (hA.run pos pins s σ H (fun vs H1 => match vs with | [v] => ∀ a H2, H1 a = none → ErAt H2 a C f v → Same H1 H2 → Q (.ref a) H2 | _ => False) I h) fun us s1 ⟨vs, H1, I1, r1, q1⟩ => ⟨I1.kIn, ?_⟩) he hpl
  match vs, r1, q1 with
  | [v], .cons r .nil, q1 => exact run_mk T F1 hr hb hx I1 r q1
end
end L2.E9

set_option Elab.async false
set_option linter.all false
set_option maxRecDepth 100000
set_option maxHeartbeats 4000000
/-! k89, part c: by name; a field; isinstance; the base class's own. -/
namespace L2.E9
open PySem PySem.Spec PyProof.Rows L2
section
variable {X : Cx} {C fI : Addr} {f x : Str} {CX : CXT} {k : Nat} {fd : FuncData} {e : Expr} {ta : TE} {p pos : Pos}
/-- C(f = e) -/
theorem pe_mkk {kpos : Pos} (T : ErC X.K C fI f) (F1 : FnOk X.prog X.w X.K X.mg X.base CX k fI fd ["self", f] (spIni X.K C f)) (hr : Room (k + 1) X.A) (hb : ∀ (s : Shared) (a u : Value), BindsTo s fd ⟨[a], [(f, u)]⟩ [("self", a), (f, u)]) (hx : Passes CX X (fun _ _ _ => False)) (hg : Gl X x) (hm : X.mg x = some (.ref C)) (kC : PySem.W.keepIn X.K (.ref C) = true) (ha : PE X e ta)
    (hall : (backToKw pos (keywordEach [⟨some f, e, kpos⟩] X.env)).all (·.1.isSome) = true := by rfl) (hks : (backToKw pos (keywordEach [⟨some f, e, kpos⟩] X.env)).filterMap (·.1) = [f] := by rfl) (hdb : (x == ("__debug__" : Str)) = false := by decide)
    (hpl : ((backTo pos (starEach [] X.env)).any (·.1) || (backToKw pos (keywordEach [⟨some f, e, kpos⟩] X.env)).any (·.1.isNone)) = false := by rfl) :
    PE X (.Call (.Name x p) [] [⟨some f, e, kpos⟩] pos) (tMk C f ta) := by
  refine ⟨fun pins s σ H Q I h => ?_⟩
  refine wpAny_Call_Name_kw (ld_glob I hg hm ?_ hdb)
  have hkw : PK X [⟨some f, e, kpos⟩] (tCons ta tNil) := pk_cons ha pk_nil
  refine PySem.W.callWith_KW0 (h₀ := X.base) I.ok.mod.kin kC hall ?_ hpl
  refine thn (hkw.run pos pins s σ H (fun vs H1 => match vs with | [v] => ∀ a H2, H1 a = none → ErAt H2 a C f v → Same H1 H2 → Q (.ref a) H2 | _ => False) I h) fun ws s2 ⟨zs, H2, I2, rz, q2⟩ => ⟨I2.kIn, ?_⟩
  rw [hks]
  match zs, rz, q2 with
  | [v], .cons r .nil, q2 => exact run_mkk T F1 hr hb hx I2 r q2
/-- e.f, e an error of one's own -/
def tErf (K : PySem.W.Frag) (f : Str) (te : TE) : TE := fun σ H Q => te σ H fun x H1 => ∃ (a C : Addr) (v : V), x = .ref a ∧ XfC K C ∧ PySem.W.findIn K (.ref C) f = some none ∧ ErAt H1 a C f v ∧ Q v H1
theorem pe_erf {te : TE} (he : PE X e te) (hb : attributeBase e f X.env (eval e X.env) = eval e X.env := by rfl) : PE X (.Attribute e f pos) (tErf X.K f te) := by
  refine ⟨fun pins s σ H Q I h => ?_⟩
  refine attr_of hb (thn (he.run pins s σ H _ I h) fun u s1 hh => ?_)
  obtain ⟨x, H1, I1, rx, a, C, v, ex, T, hno, ⟨d, ea, ed⟩, q⟩ := hh
  subst ex
  obtain rfl : u = Value.ref a := rx
  obtain ⟨t1, ho⟩ := exo_at I1.hok ea
  obtain ⟨mA, hns, hr⟩ := exd_at I1.hok ed
  obtain ⟨od, hod, hl⟩ := lookIn_ns hns
  obtain ⟨u, hu, ru⟩ := RelO.some_of (v := v) (o := mA f) (by
    have z := hr f
    rw [lookup_put, if_pos rfl] at z
    exact z)
  have J : PySem.W.InstAt s1.heap a ({ cls := .ref C, dict := some d, data := .fields #[.ref t1, .none, .none, .none, .bool false, .none] } : Obj) C (some od) := ⟨ho, rfl, rfl, hod⟩
  exact HandSPX.exc_get I1.kIn J T.ga T.gg T.exC (PySem.W.findObj_own T.hdC hno rfl (by rw [hl, hu])) (handed_of ru) ⟨v, H1, I1.tok _, ru, q⟩
end
/-- an error of the class at C stands at a -/
def EkAt (H : Hp) (a C : Addr) : Prop := (∃ d o, H a = some (exo a C (some d)) ∧ H d = some o) ∨ H a = some (ExO (.ref C) a)
theorem ErAt.ek {H : Hp} {a C : Addr} {f : Str} {v : V} (e : ErAt H a C f v) : EkAt H a C := by
  obtain ⟨d, h1, h2⟩ := e
  exact .inl ⟨d, _, h1, h2⟩
section
variable {X : Cx}
theorem EkAt.inst {pins : List (Addr × Obj)} {σ : L2.St} {H : Hp} {s : Shared} {a C : Addr} (e : EkAt H a C) (I : L2.Inv X pins σ H s) : ∃ ox od, PySem.W.InstAt s.heap a ox C od := by
  rcases e with ⟨d, o, ea, ed⟩ | ea
  · obtain ⟨t1, ho⟩ := exo_at I.hok ea
    obtain ⟨od, hod⟩ := objOk_get (I.hok d o ed)
    exact ⟨_, some od, ho, rfl, rfl, hod⟩
  · obtain ⟨⟨oe, vs, h1, h2, h3, _⟩, _⟩ := (show ObjOk X.prog X.w H s.heap a (ExO (.ref C) a) from I.hok a _ ea)
    obtain ⟨c, d, dt, sl⟩ := oe
    obtain ⟨h4, h5⟩ := h2
    dsimp only at h3 h4 h5
    subst h3 h4 h5
    exact ⟨_, none, h1, rfl, rfl, trivial⟩
theorem kit_ek {a D : Addr} {ox : Obj} {od : Option Obj} (C : ExcC X.K D) : PySem.W.KitX X.K (.ref a) (.ref D) (fun h => PySem.W.InstAt h a ox D od) := by
  have hcl : (PySem.W.clsIn X.K D).isSome = true := by
    obtain ⟨cd, h, _⟩ := PySem.W.any_some C.hd
    rw [h]
    rfl
  exact PySem.W.kitx_exc hcl C.hg C.hk C.hs C.ha C.hn C.ht C.hm
/-- isinstance(e, c) -/
def rEk (K : PySem.W.Frag) : List V → Hp → VK → Prop := fun xs H Q => ∃ (a C : Addr) (c : V) (u : Value) (b : Bool), xs = [.ref a, c] ∧ ClsV c u ∧ EkAt H a C ∧ ExcC K C ∧ PySem.W.kitOne K (.ref C) u = some b ∧ Q (.bl b) H
/-- isinstance(e, (c, ..)) -/
def rEkT (K : PySem.W.Frag) : List V → Hp → VK → Prop := fun xs H Q => ∃ (a C tp : Addr) (cs : List V) (us : List Value) (b : Bool), xs = [.ref a, .ref tp] ∧ H tp = some (.tup cs) ∧ Paired ClsV cs us ∧ EkAt H a C ∧ ExcC K C ∧ PySem.W.kitAny K (.ref C) us = some b ∧ Q (.bl b) H
theorem call_ek : CallR X (.builtin "isinstance") (rEk X.K) := by
  intro pins s σ H xs us Q I r h
  obtain ⟨a, C, c, u, b, rfl, k, ek, T, e, q⟩ := h
  obtain ⟨u1, u2, rfl, r1, r2⟩ := vals2 r
  have e2 := k.eq r2
  subst e2
  cases (show u1 = Value.ref a from r1)
  obtain ⟨ox, od, J⟩ := ek.inst I
  exact PySem.W.kia_one (kit_ek T) I.kIn J e (fun z => nomatch z) fun tk => ⟨.bl b, H, I.tok tk, rfl, q⟩
theorem call_ekT : CallR X (.builtin "isinstance") (rEkT X.K) := by
  intro pins s σ H xs us Q I r h
  obtain ⟨a, C, tp, cs, ws, b, rfl, hT, k, ek, T, e, q⟩ := h
  obtain ⟨u1, u2, rfl, r1, r2⟩ := vals2 r
  cases (show u2 = Value.ref tp from r2)
  cases (show u1 = Value.ref a from r1)
  obtain ⟨ox, od, J⟩ := ek.inst I
  obtain ⟨_, its, rv, o, h1, h2, n, h3⟩ := (show ObjOk X.prog X.w H s.heap tp (.tup cs) from I.hok tp _ hT)
  have e3 := ClsV.all k rv
  subst e3
  obtain ⟨oc, od', dt, sl⟩ := o
  simp only at h2 h3
  subst h2 h3
  exact PySem.W.kia_tup (kit_ek T) I.kIn J h1 e (fun z => nomatch z) fun tk => ⟨.bl b, H, I.tok tk, rfl, q⟩
/-- D(), the base class, as a value -/
def tMk0 (C : Addr) : TE := fun _ H Q => ∀ a H2, H a = none → H2 a = some (ExO (.ref C) a) → Same H H2 → Q (.ref a) H2
theorem pe_mk0 {C : Addr} {bmB : List Value} {B newId initId : String} {x : Str} {p pos : Pos} (F : ExcBaseFacts B newId initId bmB) (q : PySem.W.excIn X.K C bmB newId = true) (gC : X.mg x = some (.ref C)) (kC : PySem.W.keepIn X.K (.ref C) = true) (hg : Gl X x)
    (hdb : (x == ("__debug__" : Str)) = false := by decide) : PE X (.Call (.Name x p) [] [] pos) (tMk0 C) := by
  refine ⟨fun pins s σ H Q I h => ?_⟩
  refine wpAny_Call_Name_kw (ld_glob I hg gC ?_ hdb)
  refine PySem.W.callWith_K0 I.kIn kC ?_
  show wpAny _ _ (call (.ref C) []) _ _ _
  obtain ⟨bm, N, nm, qn, bs, hdct, sn, sub, ab, col, dd, k0, k1, k2, k3, k5, mN, hC, hN, hni, T⟩ := exc_obj I.kIn q
  refine wpAny_call_exc_subT F T hC hN hni (fun h' a hm => ?_) (Nat.zero_le _)
  have hn : H a = none := I.hok.gone hm.new
  obtain ⟨t, ht, _, _⟩ := hm.there
  exact ⟨.ref a, upd H a (ExO (.ref C) a), I.laidN hm.keeps hm.new hn (exO_ok ht ⟨rfl, rfl⟩ rfl rfl rfl (show 4 < 6 by decide)), rfl, h a _ hn upd_same fun b o e => by rw [upd_ne (ne_of_none e hn)]; exact e⟩
end
end L2.E9

set_option Elab.async false
set_option linter.all false
set_option maxRecDepth 100000
set_option maxHeartbeats 4000000
/-! k89, part d: what runs while an error is handled. -/
namespace L2.E9
open PySem PySem.Spec PyProof.Rows L2 HotX
open L2H (RoomH Hot1 PinOk HotC)
/-! ### a def's promise that knows the handled error -/
structure FnP (P : Program) (w : World) (K : PySem.W.Frag) (mg : Str → Option Value) (base : Heap) (CX : CXT) (k : Nat) (f : Addr) (fd : FuncData) (ps : List Str) (sp : Addr × Obj → Sp) : Prop where
  len : ∀ p vs H Q E, sp p vs H Q E → vs.length = ps.length
  run : ∀ (A : Around) (outer : List Env) (s : Shared) (H : Hp) (args : Args) (us : List Value) (vs : List V) (Q : VK) (E : XK) (p : Addr × Obj), RoomH k A → Hot1 A p → PinOk outer H s p → Env0 P w K mg base A outer s H → BindsTo s fd args (ps.zip us) → Vals vs us → sp p vs H Q E →
    codeAny (model P w) A (.call (.ref f) args) (CR CX outer P w H s Q E) s
theorem fnP_of {CX : CXT} {P : Program} {w : World} {K : PySem.W.Frag} {mg : Str → Option Value} {base : Heap} {k : Nat} {f : Addr} {name qual : Str} {params : Arguments} {body : List Stmt} {scope : Scope} {dV kV doc pm cdv ct oc : Value} {an od : Option Addr}
    {osl : Array (Option Value)} {N ps : List Str} {sp : Addr × Obj → Sp} (lk : K.lookup f = some ⟨oc, od, .func (PySem.W.fnOf name qual params body scope dV kV doc pm an cdv ct), osl⟩) (hcd : PySem.W.codeIn K cdv qual = true) (S : FnScope N ps scope)
    (len : ∀ p vs H Q E, sp p vs H Q E → vs.length = ps.length)
    (hbody : ∀ (A : Around) (outer : List Env) (s : Shared) (H : Hp) (vs : List V) (Q : VK) (E : XK) (p : Addr × Obj), Hot1 A p → RoomH k (A.deeper (envOfC qual scope s.heap.objs.size f cdv)) → sp p vs H Q E →
      ∃ t, PSs (L2H.cxH CX P w K mg base N qual scope f cdv A outer s H E p) body t ∧ t { nx := fun _ H' => Q .non H', rt := Q } (L2.start N vs) H) :
    FnP P w K mg base CX (k + 1) f (PySem.W.fnOf name qual params body scope dV kV doc pm an cdv ct) ps sp := by
  refine ⟨len, fun A outer s H args us vs Q E p hr hot hpin e0 hb r hsp => ?_⟩
  have hl := len _ _ _ _ _ hsp
  have KX : K.In s.heap := e0.mod.kin.keeps fun b o e => (e0.bs b o e).1
  have lim : s.heap.NoLimit := e0.mod.nolimit.keeps fun b o e => (e0.bs b o e).1
  have hkind : ∀ y ∈ ps.zip us, scope.names.lookup y.1 = some .local ∨ (scope.names.lookup y.1 = some .cell ∧ ((cellsFrom (s.heap.objs.size + 1) scope.names []).lookup y.1).isSome = true) := fun ⟨n, v⟩ hy => by
    rcases S.par n (List.of_mem_zip hy).1 with q | q
    · exact .inl q
    · exact .inr ⟨q, PySem.W.cellsFrom_some _ _ _ (.inl q)⟩
  refine codeAny_call_function hr.depth (KX _ _ lk) rfl S.co S.gen rfl (PySem.W.codeRec_of KX hcd) (hb _ _ _ _ ?_)
  refine wpAny_newFunctionEnv_cells S.kind hkind fun env he s1 x => ?_
  subst he
  refine ⟨lim.keeps x.toInCall.keep, codeAny_func ?_⟩
  obtain ⟨t, ht, hq⟩ := hbody A outer s H vs Q E p hot (hr.deeper _) hsp
  have I : Inv (L2H.cxH CX P w K mg base N qual scope f cdv A outer s H E p) [] (L2.start N vs) H s1 := L2H.inv_startH S hpin e0 hl r x
  refine wpAny_mono (ht.run [] s1 (L2.start N vs) H _ I hq) (fun fl s' hs => ?_) fun e s' hs => hs
  have fin : ∀ {σ' : L2.St} {H' : Hp} {v : V} {u : Value}, Inv (L2H.cxH CX P w K mg base N qual scope f cdv A outer s H E p) [] σ' H' s' → L2.RelV v u → Q v H' → CE outer P w H s Q u s' :=
    fun {σ' H' v u} J rv q => ⟨v, H', J.os, J.bare, J.base, J.hok, rv, q⟩
  cases fl with
  | ret u =>
    obtain ⟨v, σ', H', J, rv, q⟩ := hs
    exact fin J rv q
  | next =>
    obtain ⟨σ', H', J, q⟩ := hs
    exact fin (v := V.non) (u := Value.none) J rfl q
  | brk =>
    obtain ⟨_, _, _, q⟩ := hs
    exact False.elim q
  | cont =>
    obtain ⟨_, _, _, q⟩ := hs
    exact False.elim q
section
variable {X : Cx} {CX : CXT} {k : Nat} {f : Addr} {fd : FuncData} {ps : List Str} {sp : Addr × Obj → Sp} {E : XK} {x : Str} {q pos : Pos} {e : Expr} {es : List Expr} {t : TA}
theorem run_fnP {pins : List (Addr × Obj)} {σ : L2.St} {H : Hp} {s : Shared} {Q : VK} {us : List Value} {vs : List V} {p : Addr × Obj} (F : FnP X.prog X.w X.K X.mg X.base CX k f fd ps sp) (hr : RoomH k X.A) (hot : Hot1 X.A p) (hp : p ∈ X.pn) (hb : L2.Binds X.K fd ps []) (hx : Passes CX X E)
    (I : L2.Inv X pins σ H s) (r : Vals vs us) (h : sp p vs H Q E) : wpAny (model X.prog X.w) X.A (call (.ref f) us) (EP X pins σ Q) X.xe s := by
  have hl : us.length = ps.length := by rw [← r.length]; exact F.len _ _ _ _ _ h
  have b := hb s us I.kIn (by rw [List.append_nil]; exact hl)
  rw [List.append_nil] at b
  have P1 := I.pin p (List.mem_append_left _ hp)
  have hpin : PinOk X.stack H s p := ⟨P1.1, P1.2.1, fun hm => (List.mem_cons.mp (I.stkSub p.1 hm)).elim P1.2.2.1 P1.2.2.2.1, P1.2.2.2.2⟩
  refine wpAny_call (codeAny_mono (F.run X.A X.stack s H ⟨us, []⟩ us vs Q E p hr hot hpin I.env0 b r h) fun r s' hq => ?_)
  cases r with
  | error e => exact hx pins σ H s e s' I hq
  | ok fl =>
    cases fl with
    | ret u => exact I.after hq
    | next => exact False.elim hq
    | brk => exact False.elim hq
    | cont => exact False.elim hq
theorem pe_callP {p : Addr × Obj} (F : FnP X.prog X.w X.K X.mg X.base CX k f fd ps sp) (hr : RoomH k X.A) (hot : Hot1 X.A p) (hp : p ∈ X.pn) (hg : Gl X x) (hm : X.mg x = some (.ref f)) (hk : PySem.W.keepIn X.K (.ref f) = true) (hb : L2.Binds X.K fd ps []) (hx : Passes CX X E)
    (ha : PA X (e :: es) t) (hdb : (x == ("__debug__" : Str)) = false := by decide) (he : starEach (e :: es) X.env = (false, eval e X.env) :: starEach es X.env := by rfl) (hpl : (backTo pos (starEach es X.env)).any (·.1) = false := by rfl) :
    PE X (.Call (.Name x q) (e :: es) [] pos) (fun σ H Q => t σ H fun vs H1 => sp p vs H1 Q E) := by
  refine ⟨fun pins s σ H Q I h => ?_⟩
  refine wpAny_Call_Name_kw (ld_glob I hg hm ?_ hdb)
  refine PySem.W.callWith_K (h₀ := X.base) I.ok.mod.kin hk (thn (ha.run pos pins s σ H _ I h) fun us s1 ⟨vs, H1, I1, r, q⟩ => ⟨I1.kIn, ?_⟩) he hpl
  exact run_fnP F hr hot hp hb hx I1 r q
/-- isinstance(e, c), e the error that is handled -/
def rEkP (K : PySem.W.Frag) (D a dd : Addr) : List V → Hp → VK → Prop := fun xs H Q => ∃ (c : V) (u : Value) (b : Bool), xs = [.ref a, c] ∧ ClsV c u ∧ (∃ o, H dd = some o) ∧ PySem.W.kitOne K (.ref D) u = some b ∧ Q (.bl b) H
theorem call_ekP {D dd : Addr} {p : Addr × Obj} (hp : p ∈ X.pn) (T : ExcC X.K D) (hz : Zc (.ref D) (some dd) p.2) (hf : ∃ vs, p.2.data = .fields vs) : CallR X (.builtin "isinstance") (rEkP X.K D p.1 dd) := by
  intro pins s σ H xs us Q I r h
  obtain ⟨c, u, b, rfl, k, ⟨o, ed⟩, e, q⟩ := h
  obtain ⟨u1, u2, rfl, r1, r2⟩ := vals2 r
  have e2 := k.eq r2
  subst e2
  cases (show u1 = Value.ref p.1 from r1)
  obtain ⟨hget, _⟩ := I.pin p (List.mem_append_left _ hp)
  obtain ⟨od, hod⟩ := objOk_get (I.hok dd o ed)
  obtain ⟨vs, hv⟩ := hf
  have J : PySem.W.InstAt s.heap p.1 p.2 D (some od) := by
    obtain ⟨a, oe⟩ := p
    obtain ⟨oc, od', oda, osl⟩ := oe
    obtain ⟨h1, h2⟩ := hz
    dsimp only at h1 h2 hv
    subst h1 h2 hv
    exact ⟨hget, rfl, rfl, hod⟩
  exact PySem.W.kia_one (kit_ek T) I.kIn J e (fun z => nomatch z) fun tk => ⟨.bl b, H, I.tok tk, rfl, q⟩
end
/-! ### a list comprehension over a range there -/
abbrev blkH (X : Cx) (s : Shared) (H : Hp) (scope : Scope) (cenv : Env) (fp : List Addr) : Cx := { X.blk s H scope cenv fp with pn := X.pn }
section
variable {X : Cx} {pins : List (Addr × Obj)} {σ : L2.St} {H : Hp} {s : Shared}
theorem okH {scope : Scope} {cenv : Env} {fp : List Addr} (ok : (X.blk s H scope cenv fp).Ok) : (blkH X s H scope cenv fp).Ok := by
  cases ok
  constructor <;> assumption
theorem block_startH {scope : Scope} {own : List (Str × Nat)} {fp : List Addr} (I : L2.Inv X pins σ H s) (ok : BlkOk X.N X.env.scope scope own) (hN : X.N.Nodup) (hfp : ∀ b ∈ fp, FpOk X pins H b ∧ b < s.heap.objs.size) :
    L2.Inv (blkH X s H scope (compEnvC scope (cellsFrom (s.heap.objs.size + 1) scope.names (cloFrom X.env.cells scope.names [])) s.heap.objs.size X.env) fp) [] (wipe σ (own.map (·.2))) H { s with heap := pushCells (s.heap.push { cls := .type "dict", data := .dict #[] }) scope.names } := by
  have I4 := block_start I ok hN hfp
  refine ⟨okH I4.ok, I4.os, I4.bare, I4.base, I4.loc, I4.cell, I4.free, I4.freeC, fun q hq => ?_, I4.hok, I4.len⟩
  have hq' : q ∈ X.pn := by simpa using (show q ∈ X.pn ++ ([] : List (Addr × Obj)) from hq)
  have P1 := I.pin q (List.mem_append_left _ hq')
  exact ⟨pushCells_keeps _ _ _ _ (Heap.get?_push_of_some _ P1.1), P1.2.1, Nat.ne_of_lt (Heap.lt_size P1.1), fun hm => (List.mem_cons.mp (I.stkSub q.1 hm)).elim P1.2.2.1 P1.2.2.2.1, P1.2.2.2.2⟩
end
section
variable {X : Cx}
theorem lc_coreH {pins : List (Addr × Obj)} {s : Shared} {σ : St} {H : Hp} {Q : VK} {elt tg iter : Expr} {ifs : List Expr} {scope : Scope} {own : List (Str × Nat)} {pos pos' : Pos} {wi : TI} {g : TG} {tt : TT} {te : TE} {use : Option (Value → Sem Unit)} {Qf : Value → Shared → Prop}
    (hc : L2H.HotC X) (hN : X.N.Nodup) (I : Inv X pins σ H s) (hi : L2H.PIH X tg iter wi) (ok : BlkOk X.N X.env.scope scope own)
    (hg : ∀ (s : Shared) (H : Hp) (C : Addr) (cl : List (Str × Addr)) (fp : List Addr), PG (blkH X s H scope (compEnvC scope cl C X.env) fp) tg g) (ht : ∀ (s : Shared) (H : Hp) (C : Addr) (cl : List (Str × Addr)) (fp : List Addr), PTs (blkH X s H scope (compEnvC scope cl C X.env) fp) ifs tt)
    (he : ∀ (s : Shared) (H : Hp) (C : Addr) (cl : List (Str × Addr)) (fp : List Addr), PE (blkH X s H scope (compEnvC scope cl C X.env) fp) elt te) (hs : ∀ x, foldedSetIterable iter X.env x = pure x)
    (h : tLc wi g tt te (own.map (·.2)) σ H Q)
    (hRR : ∀ D C s' m H', Inv X pins σ H' s' → Q (.ref D) H' → s'.heap.Ns C m → FpOk X pins H' C → compPost (model X.prog X.w) X.A X.xe use Qf (.ref D) C (.ok .next) s') :
    wpAny (model X.prog X.w) X.A (comprehension (.ListComp elt [⟨tg, iter, ifs, 0⟩] scope pos) scope X.env pos' (newList []) false (eval iter X.env) use) Qf X.xe s := by
  have hfree : ∀ y ∈ scope.names, y.2 = .free → ∃ c, X.env.cells.lookup y.1 = some c := fun y hy e => by
    rcases ok.free y hy e with k | k
    · exact I.ok.has _ (.inl k)
    · exact I.ok.has _ (.inr k)
  refine wpAny_comprehension_free (use := use) rfl hs (closure_ok hfree) ok.kind (fun y hy e => by rw [ok.uniq y hy, e])
    (thn (hi.run pins s σ H _ I h) fun xv s1 hx => thn hx fun itv s2 h2 => ?_)
  obtain ⟨it, fp, tn, J, H2, e, I2, T, st2, f2, q⟩ := h2
  subst e
  refine wpAny_newObj_type (newEnv_comp ?_) (by show 0 ≤ sizeLine; decide)
  generalize hD : s2.heap.objs.size = D
  have hDn : H2 D = none := I2.hok.fresh (Nat.le_of_eq hD)
  obtain ⟨W, ⟨m0, w0⟩, turn⟩ := q D hDn
  -- the new list
  generalize hs3 : ({ s2 with heap := s2.heap.push { cls := .type "list", data := .seq ([] : List Value).toArray } } : Shared) = s3
  have I3 : Inv X pins σ (upd H2 D (.lst [])) s3 := by
    rw [← hs3]
    refine I2.laid (t' := s2.toks) (fun b o e => Heap.get?_push_of_some _ e) (Nat.le_of_eq hD) ⟨Nat.zero_le _, [], 0, .nil, ?_⟩
    rw [← hD]
    exact Heap.get?_push_size _ rfl
  have h3 : s3.heap = s2.heap.push { cls := .type "list", data := .seq ([] : List Value).toArray } := by rw [← hs3]
  have sz : ∀ b ∈ fp, b < s2.heap.objs.size := fun b hb => by
    obtain ⟨o, e, _⟩ := T.obj _ _ st2 b hb
    exact Heap.lt_size e
  have f3 : ∀ b ∈ fp, FpOk X pins (upd H2 D (.lst [])) b ∧ b < s3.heap.objs.size := fun b hb => by
    have hlt := sz b hb
    refine ⟨⟨?_, (f2 b hb).2⟩, by rw [h3, Heap.size_push]; exact Nat.lt_succ_of_lt hlt⟩
    rw [upd_ne (by rw [← hD]; exact Nat.ne_of_lt hlt)]
    exact (f2 b hb).1
  have st3 : tn 0 s3.heap := T.keep _ _ _ st2 fun b _ o e => by rw [h3]; exact Heap.get?_push_of_some _ e
  have I4 := block_startH I3 ok hN f3
  have pg := hg s3 (upd H2 D (.lst [])) s3.heap.objs.size (cellsFrom (s3.heap.objs.size + 1) scope.names (cloFrom X.env.cells scope.names [])) fp
  have pt := ht s3 (upd H2 D (.lst [])) s3.heap.objs.size (cellsFrom (s3.heap.objs.size + 1) scope.names (cloFrom X.env.cells scope.names [])) fp
  have pe := he s3 (upd H2 D (.lst [])) s3.heap.objs.size (cellsFrom (s3.heap.objs.size + 1) scope.names (cloFrom X.env.cells scope.names [])) fp
  show codeAny _ _ (.compStart (.ListComp elt [⟨tg, iter, ifs, 0⟩] scope pos) 0 (.ref it) (.ref D) (compEnvC scope (cellsFrom (s3.heap.objs.size + 1) scope.names (cloFrom X.env.cells scope.names [])) s3.heap.objs.size X.env)) (compPost (model X.prog X.w) X.A X.xe use Qf (.ref D) s3.heap.objs.size) { s3 with heap := pushCells (s3.heap.push { cls := .type "dict", data := .dict #[] }) scope.names }
  have nfp : ∀ b ∈ fp, (upd H2 D (.lst [])) b = none := fun b hb => (f3 b hb).1.1
  generalize hce : compEnvC scope (cellsFrom (s3.heap.objs.size + 1) scope.names (cloFrom X.env.cells scope.names [])) s3.heap.objs.size X.env = ce at I4 pg pt pe ⊢
  have cL : ce.locals = s3.heap.objs.size := by subst hce; rfl
  generalize hH3 : upd H2 D (.lst []) = H3 at I3 I4 pg pt pe w0 nfp f3
  generalize hs4 : ({ s3 with heap := pushCells (s3.heap.push { cls := .type "dict", data := .dict #[] }) scope.names } : Shared) = s4 at I4 ⊢
  have st4 : tn 0 s4.heap := T.keep _ _ _ st3 fun b _ o e => by rw [← hs4]; exact pushCells_keeps _ _ _ _ (Heap.get?_push_of_some _ e)
  have stat : ∀ {σ' : St} {H' : Hp} {s' : Shared}, Inv (blkH X s3 H3 scope ce fp) [] σ' H' s' → (∀ b ∈ fp, H' b = none) → ∀ b ∈ fp, FpOk (blkH X s3 H3 scope ce fp) [] H' b := fun {σ' H' s'} I' hn b hb =>
    ⟨hn b hb, (I'.ok.exf b hb).1, I'.ok.exfs b hb, .inl hb, fun x c e => (I'.ok.exf b hb).2 x c e, fun p hp => (f3 b hb).1.2.2.2.2.2 p (List.mem_append_left _ (by simpa using (show p ∈ X.pn ++ ([] : List (Addr × Obj)) from hp)))⟩
  have loop : codeAny (model X.prog X.w) X.A (.compLoop (.ListComp elt [⟨tg, iter, ifs, 0⟩] scope pos) 0 (.ref it) (.ref D) ce) (compPost (model X.prog X.w) X.A X.xe use Qf (.ref D) s3.heap.objs.size) s4 := by
    refine compLoop_any (fun n s' => ∃ i H', Inv (blkH X s3 H3 scope ce fp) [] (wipe σ (own.map (·.2))) H' s' ∧ tn i s'.heap ∧ (∀ b ∈ fp, H' b = none) ∧ W i n H') ?_ m0 ⟨0, H3, I4, st4, nfp, w0⟩
    rintro n s5 ⟨i, H5, I5, st5, n5, w5⟩
    rcases turn i n H5 w5 with ⟨stop, qq⟩ | ⟨go, Nx, hNx, step⟩
    · have td := T.done (blkH X s3 H3 scope ce fp) rfl rfl rfl hc i [] s5 _ H5 (fun _ _ => False) I5 (stat I5 n5) st5 stop
      refine thnF td fun r s6 ⟨hr, I6⟩ => ?_
      subst hr
      -- back in the def's context
      have I7 : Inv X pins σ H5 s6 := I3.call' (ch := fp) I6.os I6.base I6.hok I6.bare fun b hb => ⟨(f3 b hb).1.2.2.2.1, (f3 b hb).1.2.1, (f3 b hb).1.2.2.2.2.1, (f3 b hb).1.2.2.2.2.2⟩
      have nC : H5 s3.heap.objs.size = none := by
        have z : H5 ce.locals = none := I6.free
        rw [cL] at z
        exact z
      obtain ⟨m, hn, _⟩ := I6.loc
      have hn : s6.heap.Ns ce.locals m := hn
      rw [cL] at hn
      exact hRR D s3.heap.objs.size s6 m H5 I7 qq hn (I3.fpOk (Nat.le_refl _) nC)
    · have ti := T.item (blkH X s3 H3 scope ce fp) rfl rfl rfl hc i [] s5 _ H5 (fun _ _ => False) I5 (stat I5 n5) st5 go
      refine thnF ti fun r s6 ⟨u, hr, h6⟩ => ?_
      subst hr
      refine thnF h6 fun _ s7 ⟨x, H7, I7, r7, y7, st7, n7⟩ => ?_
      have I7' := I7.pinned (stat I7 n7) (T.obj _ _ st7)
      refine thnF (pg.run _ s7 _ H7 x u _ I7' r7 (step x H7 y7)) fun _ s8 ⟨σ8, H8, I8, hw8, q8⟩ => ?_
      refine thnF (pt.run _ s8 σ8 H8 _ I8 q8) fun b s9 ⟨H9, I9, q9⟩ => ?_
      -- the turn's end
      have fin : ∀ {s' : Shared} {H' : Hp}, Inv (blkH X s3 H3 scope ce fp) ([] ++ pinsAt fp s7.heap) σ8 H' s' → Nx H' → ∃ m, m < n ∧ ∃ i H', Inv (blkH X s3 H3 scope ce fp) [] (wipe σ (own.map (·.2))) H' s' ∧ tn i s'.heap ∧ (∀ b ∈ fp, H' b = none) ∧ W i m H' := fun {s' H'} I' nx => by
        obtain ⟨m', hm, w'⟩ := hNx H' nx
        have pin' : ∀ b ∈ fp, ∀ o, s7.heap.get? b = some o → s'.heap.get? b = some o ∧ H' b = none := fun b hb o e =>
          let z := I'.pin (b, o) (List.mem_append_right _ (List.mem_append_right _ (mem_pinsAt hb e)))
          ⟨z.1, z.2.1⟩
        have hl : (wipe σ (own.map (·.2))).length = σ8.length := by rw [← hw8, wipe_length]
        refine ⟨m', hm, i + 1, H', (I'.unpinned (pins := [])).weak hl (fun j v e => ?_), T.keep _ _ _ st7 fun b hb o e => (pin' b hb o e).1, fun b hb => ?_, w'⟩
        · rw [← hw8] at e
          exact (wipe_some e).1
        · obtain ⟨o, e, _⟩ := T.obj _ _ st7 b hb
          exact (pin' b hb o e).2
      cases b with
      | false =>
        simp only [Bool.false_eq_true, if_false] at q9 ⊢
        exact fin I9 q9
      | true =>
        simp only [if_true] at q9 ⊢
        refine thnF (pe.run _ s9 σ8 H9 _ I9 q9) fun z s10 ⟨yv, H10, I10, r10, acc, hD10, hz10, nx⟩ => ?_
        exact app_ok (X := blkH X s3 H3 scope ce fp) I10 hD10 hz10 r10 fun s11 I11 => fin I11 nx
  exact codeAny_compStart_list loop (T.self X.A 0 _ _ _ st4 loop)
theorem pe_lcH {elt tg iter : Expr} {ifs : List Expr} {scope : Scope} {own : List (Str × Nat)} {pos : Pos} {wi : TI} {g : TG} {tt : TT} {te : TE} (hc : L2H.HotC X) (hN : X.N.Nodup) (hi : L2H.PIH X tg iter wi) (ok : BlkOk X.N X.env.scope scope own)
    (hg : ∀ (s : Shared) (H : Hp) (C : Addr) (cl : List (Str × Addr)) (fp : List Addr), PG (blkH X s H scope (compEnvC scope cl C X.env) fp) tg g) (ht : ∀ (s : Shared) (H : Hp) (C : Addr) (cl : List (Str × Addr)) (fp : List Addr), PTs (blkH X s H scope (compEnvC scope cl C X.env) fp) ifs tt)
    (he : ∀ (s : Shared) (H : Hp) (C : Addr) (cl : List (Str × Addr)) (fp : List Addr), PE (blkH X s H scope (compEnvC scope cl C X.env) fp) elt te) (hs : ∀ x, foldedSetIterable iter X.env x = pure x := by intro _; rfl) :
    PE X (.ListComp elt [⟨tg, iter, ifs, 0⟩] scope pos) (tLc wi g tt te (own.map (·.2))) := by
  refine ⟨fun pins s σ H Q I h => ?_⟩
  rw [eval_ListComp]
  refine lc_coreH hc hN I hi ok hg ht he hs h fun D C s' m H' I' q hn f => ⟨m, hn, fun h'' sb => ?_⟩
  obtain ⟨f0, f1, f2, f3, f4, f5⟩ := f
  exact ⟨.ref D, H', I'.turned (t' := s'.toks) (fun b o hb e => (sb.2 b hb).trans e) f0 f1 f3 f4 f5, rfl, q⟩
end
end L2.E9

set_option Elab.async false
set_option linter.all false
set_option maxRecDepth 100000
set_option maxHeartbeats 4000000
/-! k89, part e: the draws. -/
namespace L2.E9
open PySem PySem.Spec L2
open PyProof.Rows (envOfC)
variable {K : PySem.W.Frag} {X : Cx}
def top (i : Nat) : Stmt := PySem.Challenge.pw_dayled_k89_errors_of_days.main.body.getD i (.Pass ⟨0, 0, 0, 0⟩)
theorem PE_imp {X : Cx} {e : Expr} {r t : TE} (h : PE X e r) (i : ∀ σ H Q, t σ H Q → r σ H Q) : PE X e t := ⟨fun pins s σ H Q I q => h.run pins s σ H Q I (i _ _ _ q)⟩
theorem PT_imp {X : Cx} {e : Expr} {r t : TT} (h : PT X e r) (i : ∀ σ H Q, t σ H Q → r σ H Q) : PT X e t := ⟨fun pins s σ H Q I q => h.run pins s σ H Q I (i _ _ _ q)⟩
theorem PG_imp {e : Expr} {r t : TG} (h : PG X e r) (i : ∀ v σ H Q, t v σ H Q → r v σ H Q) : PG X e t := ⟨fun pins s σ H v u Q I rv q => h.run pins s σ H v u Q I rv (i _ _ _ _ q)⟩
theorem nob (o : CmpOp) {b : Expr} (h : ∀ es k p, b ≠ .Set es k p := by intro _ _ _ z; cases z) : behindInMarks o b = false := by
  cases o <;> first | rfl | (cases b <;> first | rfl | exact absurd rfl (h _ _ _))
theorem shaped_of {a : PyData} (h : a.canLay0 = true) (hd : a.depth ≤ 64) : SeqAt.shaped a = true := by
  unfold SeqAt.shaped
  rw [h, decide_eq_true hd]
  rfl
theorem tyV_lst {K : PySem.W.Frag} {p : Addr} {xs : List V} {H : Hp} (h : H p = some (.lst xs)) : tyV K "list" (.ref p) H := .inl ⟨rfl, xs, SqL.of h⟩
/-! ### state[k] -/
def tSt (k : Nat) : TE := fun σ H Q => ∃ p xs v, σ[0]? = some (some (.ref p)) ∧ H p = some (.lst xs) ∧ xs[k]? = some v ∧ Q v H
theorem pe_st {x : Str} {kk : Nat} (k : Nat) {px pc pos : Pos} (hk : k < 63) (hN : X.N[0]? = some x := by rfl) (hv : Vis X.env.scope x := by first | exact Or.inl rfl | exact Or.inr (Or.inl rfl) | exact Or.inr (Or.inr rfl)) (hd : (x == ("__debug__" : Str)) = false := by decide) (hcd : (x == ("__classdict__" : Str)) = false := by decide) : PE X (.Subscript (.Name x px) (.Constant (.int (k : Nat)) kk pc) pos) (tSt k) :=
  PE_imp (pe_ix ix_list (pe_var (i := 0) hN hv hd hcd) pe_int (fun _ _ => rfl)) fun σ H Q q => by
    obtain ⟨p, xs, v, h1, h2, h3, q⟩ := q
    refine ⟨_, h1, p, xs, (k : Int), v, rfl, rfl, SqL.of h2, ?_, q⟩
    have hl := (List.getElem?_eq_some_iff.mp h3).1
    unfold atI ixN
    rw [if_pos (by omega), if_pos (by omega)]
    exact h3
def gSt (k : Nat) : TG := fun v σ H Q => ∃ p xs, σ[0]? = some (some (.ref p)) ∧ H p = some (.lst xs) ∧ k < xs.length ∧ Q σ (upd H p (.lst (xs.set k v)))
theorem pg_st {x : Str} {kk : Nat} (k : Nat) {px pc tpos : Pos} (hN : X.N[0]? = some x := by rfl) (hv : Vis X.env.scope x := by first | exact Or.inl rfl | exact Or.inr (Or.inl rfl) | exact Or.inr (Or.inr rfl)) (hd : (x == ("__debug__" : Str)) = false := by decide) (hcd : (x == ("__classdict__" : Str)) = false := by decide) :
    PG X (.Subscript (.Name x px) (.Constant (.int (k : Nat)) kk pc) tpos) (gSt k) := PG_imp (pg_sub (pe_var (i := 0) hN hv hd hcd) pe_int set_list (by exact fun _ => rfl)) fun v σ H Q q => by
  obtain ⟨p, xs, h1, h2, h3, q⟩ := q
  refine ⟨_, h1, p, xs, (k : Int), k, rfl, rfl, h2, ?_, q⟩
  unfold ixN
  rw [if_pos (by omega), if_pos (by omega)]
  simp
def tPop0 : TE := fun σ H Q => ∃ p xs q c cs, σ[0]? = some (some (.ref p)) ∧ H p = some (.lst xs) ∧ xs[0]? = some (.ref q) ∧ H q = some (.lst (c :: cs)) ∧ Q c (upd H q (.lst cs))
theorem pe_pop0 {x : Str} {k0 k1 : Nat} {px pc ps apos pc2 cpos : Pos} (hN : X.N[0]? = some x := by rfl) (hv : Vis X.env.scope x := by first | exact Or.inl rfl | exact Or.inr (Or.inl rfl) | exact Or.inr (Or.inr rfl)) (hd : (x == ("__debug__" : Str)) = false := by decide) (hcd : (x == ("__classdict__" : Str)) = false := by decide)
    (hs : starEach (.Constant (.int 0) k1 pc2 :: []) X.env = (false, eval (.Constant (.int 0) k1 pc2) X.env) :: starEach [] X.env := by rfl)
    (hbase : attributeBase (.Subscript (.Name x px) (.Constant (.int 0) k0 pc) ps) "pop" X.env (eval (.Subscript (.Name x px) (.Constant (.int 0) k0 pc) ps) X.env) = eval (.Subscript (.Name x px) (.Constant (.int 0) k0 pc) ps) X.env := by rfl)
    (hfew : ((backTo cpos (starEach (.Constant (.int 0) k1 pc2 :: []) X.env)).all (fun x => !x.1) && (backToKw cpos (keywordEach [] X.env)).all (fun x => x.1.isSome)
      && decide ((Expr.Constant (.int 0) k1 pc2 :: []).length + ([] : List Keyword).length + (if ([] : List Keyword).isEmpty then 0 else 1) < 30)) = true := by rfl)
    (hline : (apos.endLine == cpos.line) = true := by rfl) (hplain : (backTo cpos (starEach [] X.env)).any (·.1) = false := by rfl) :
    PE X (.Call (.Attribute (.Subscript (.Name x px) (.Constant (.int 0) k0 pc) ps) "pop" apos) [.Constant (.int 0) k1 pc2] [] cpos) tPop0 :=
  PE_imp (pe_bm PySem.F.plainAttrs_list PySem.F.slot_list_pop PySem.F.type_list_pop mt_popAt (pe_st 0 (by decide) hN hv hd hcd) (pa_cons pe_int pa_nil hs) hbase hfew hline hs hplain) fun σ H Q q => by
    obtain ⟨p, xs, a, c, cs, h1, h2, h3, h4, q⟩ := q
    refine ⟨p, xs, .ref a, h1, h2, h3, tyV_lst h4, a, c :: cs, 0, 0, c, rfl, rfl, h4, by decide, by decide, ?_, rfl, q⟩
    simp [seqIndex?]
/-- state[0] != [] -/
def tFull : TT := fun σ H Q => ∃ (p : Addr) (xs : List V) (q : Addr) (cs : List Int), σ[0]? = some (some (.ref p)) ∧ H p = some (.lst xs) ∧ xs[0]? = some (.ref q) ∧ H q = some (.lst (cs.map V.int)) ∧ ∀ H', (∀ a, H a ≠ Option.none → H' a = H a) → (∀ a o, H' a = some o → H a = Option.none → ∃ l, o = .lst l) → Q (!cs.isEmpty) H'
theorem dpInts {K : PySem.W.Frag} {H : Hp} : ∀ cs : List Int, DpAll K H (cs.map V.int) (cs.map PyData.int)
  | [] => .nil
  | c :: cs => .cons (.int c) (dpInts cs)
theorem layInts : ∀ cs : List Int, PyData.canLayAll0 (cs.map PyData.int) = true
  | [] => rfl
  | c :: cs => by
    show (PyData.canLay0 (PyData.int c) && PyData.canLayAll0 (cs.map PyData.int)) = true
    rw [layInts cs]
    rfl
theorem depInts : ∀ cs : List Int, PyData.depthAll (cs.map PyData.int) ≤ 1
  | [] => by simp [PyData.depthAll]
  | c :: cs => by
    have := depInts cs
    simp only [List.map_cons, PyData.depthAll, PyData.depth]
    omega
theorem shInts (cs : List Int) : SeqAt.shaped (.list (cs.map PyData.int)) = true := by
  refine shaped_of (layInts cs) ?_
  have := depInts cs
  simp only [PyData.depth]
  omega
theorem pt_full {x : Str} {k0 : Nat} {px pc ps pl cpos : Pos} (hu : X.A.units + 64 < cLine) (hN : X.N[0]? = some x := by rfl) (hv : Vis X.env.scope x := by first | exact Or.inl rfl | exact Or.inr (Or.inl rfl) | exact Or.inr (Or.inr rfl)) (hd : (x == ("__debug__" : Str)) = false := by decide) (hcd : (x == ("__classdict__" : Str)) = false := by decide) :
    PT X (.Compare (.Subscript (.Name x px) (.Constant (.int 0) k0 pc) ps) [.NotEq] [.List [] pl] cpos) tFull :=
  PT_imp (pt_cmpR (op_neD hu) (pe_st 0 (by decide) hN hv hd hcd) (pe_lst pa_nil) (nob _)) fun σ H Q q => by
    obtain ⟨p, xs, a, cs, h1, h2, h3, h4, q⟩ := q
    refine ⟨p, xs, .ref a, h1, h2, h3, Nat.zero_le _, fun l hl => ?_⟩
    have ne : a ≠ l := ne_of_none h4 hl
    refine ⟨.list (cs.map PyData.int), .list [], .lst (SqL.of (by rw [upd_ne ne]; exact h4)) (dpInts cs), .lst (SqL.of upd_same) .nil, shInts cs, by decide, _, rfl, ?_⟩
    have e : (!PyData.eqv (.list (cs.map PyData.int)) (.list [])) = !cs.isEmpty := by
      cases cs with
      | nil => rfl
      | cons c cs => rfl
    rw [e]
    refine q _ (fun b hb => upd_ne fun z => hb (by rw [z]; exact hl)) fun b o hb hn => ?_
    by_cases z : b = l
    · rw [z, upd_same] at hb
      exact ⟨_, (Option.some.inj hb).symm⟩
    · rw [upd_ne z, hn] at hb
      cases hb

/-- the heap behind a draw: only the state has changed -/
structure Drew (a0 a1 : Addr) (H H' : Hp) (n : Nat) : Prop where
  keep : ∀ a, a ≠ a0 → a ≠ a1 → H a ≠ Option.none → H' a = H a
  st : ∃ (cells : List Int) (cur cnt mix : Int), H' a0 = some (.lst [.ref a1, .int cur, .int cnt, .int mix]) ∧ H' a1 = some (.lst (cells.map V.int)) ∧ cells.length ≤ 63 ∧ True ∧ 0 ≤ cur ∧ True ∧ 0 ≤ cnt ∧ cnt ≤ n ∧ 0 ≤ mix ∧ mix < 2147483647
def rInt1 : List V → Hp → VK → Prop := fun xs H Q => (∃ i, xs = [V.int i] ∧ Q (V.int i) H) ∨ ∃ k, xs = [V.bl k] ∧ Q (V.int (if k = true then 1 else 0)) H
abbrev rPls : R2 := rI0 fun i j => .int (i + j)
abbrev rMlt : R2 := rI CMul fun i j => .int (i * j)
abbrev rMd : R2 := rI (fun _ j => 0 < j) fun i j => .int (i % j)
abbrev rPw : R2 := rI CPow fun i j => .int (i ^ j.toNat)
def tTail : TS :=
  tSeq
    (tIfS (tTest (tOp (rI0 fun i j => V.bl (decide (j < i))) (tSt 1) (tC (V.int 0))))
      (tSeq (tAsg (tOp rMd (tCB rInt1 (tCons (tSt 1) tNil)) (tVar 1)) (gName 3))
        (tSeq (tAsg (tOp (rI CDiv fun i j => V.int (i / j)) (tSt 1) (tVar 1)) (gSt 1)) (tRet (tVar 3))))
      tNext)
    (tSeq
      (tAsg (tOp rMd (tCB rInt1 (tCons (tOp rPw (tOp rPls (tOp rPls (tSt 3) (tOp rMlt (tC (V.int 7907)) (tSt 2))) (tC (V.int 104723))) (tC (V.int 5))) tNil)) (tC (V.int 2147483629))) (gName 4))
      (tRet (tOp rMd (tOp rMd (tCB rInt1 (tCons (tOp rPw (tOp rPls (tOp rPls (tOp rMlt (tVar 4) (tC (V.int 48271))) (tOp rMlt (tC (V.int 30011)) (tSt 2))) (tC (V.int 31))) (tC (V.int 3))) tNil)) (tC (V.int 1000000007))) (tVar 1))))
def tLoop : TS :=
  tWhile (tAnd (tTest (tOp rEq (tSt 1) (tC (V.int 0)))) tFull)
    (tSeq (tAsg (tCB (fun xs H Q => ∃ i, xs = [V.int i] ∧ Q (V.int (if i < 0 then -i else i)) H) (tCons tPop0 tNil)) (gName 2))
      (tSeq (tAsg (tOp rMd (tCB rInt1 (tCons (tOp rPls (tOp rPls (tOp rMlt (tSt 3) (tC (V.int 6151))) (tVar 2)) (tC (V.int 5))) tNil)) (tC (V.int 2147483647))) (gSt 3))
        (tAsg (tIf (tTest (tOp (rI0 fun i j => V.bl (decide (j ≤ i))) (tVar 2) (tOp rPw (tC (V.int 10)) (tC (V.int 18))))) (tVar 2) (tC (V.int 0))) (gSt 1))))
def tPick : TS := tSeq (tAsg (tOp rPls (tSt 2) (tC (V.int 1))) (gSt 2)) (tSeq tLoop tTail)
theorem ite_t {p : Bool} {a b : Prop} (h : p = true) (q : a) : if p = true then a else b := by
  rw [if_pos h]
  exact q
theorem ite_f {p : Bool} {a b : Prop} (h : ¬ p = true) (q : b) : if p = true then a else b := by
  rw [if_neg h]
  exact q
/-- the state within a draw -/
def InD (a0 a1 : Addr) (H H' : Hp) (cells : List Int) (cur cnt mix : Int) : Prop := H' a0 = some (.lst [.ref a1, .int cur, .int cnt, .int mix]) ∧ H' a1 = some (.lst (cells.map V.int)) ∧ (∀ a, a ≠ a0 → a ≠ a1 → H a ≠ Option.none → H' a = H a) ∧
  cells.length ≤ 63 ∧ True ∧ 0 ≤ cur ∧ True ∧ 0 ≤ mix ∧ mix < 2147483647
theorem InD.set {a0 a1 : Addr} {H H' : Hp} {cells : List Int} {cur cnt mix cur' cnt' mix' : Int} (h : InD a0 a1 H H' cells cur cnt mix) (ne : a0 ≠ a1) (c0 : 0 ≤ cur') (c1 : True) (x0 : 0 ≤ mix') (x1 : mix' < 2147483647) :
    InD a0 a1 H (upd H' a0 (.lst [.ref a1, .int cur', .int cnt', .int mix'])) cells cur' cnt' mix' := by
  obtain ⟨h0, h1, h2, h3, h4, _⟩ := h
  refine ⟨upd_same, by rw [upd_ne (Ne.symm ne)]; exact h1, fun a z z1 q => by rw [upd_ne z]; exact h2 a z z1 q, h3, h4, c0, c1, x0, x1⟩
theorem tail_ok {a0 a1 : Addr} {H H' : Hp} {cells : List Int} {cur cnt mix m : Int} {c : Option V} {D : Ends} (h : InD a0 a1 H H' cells cur cnt mix) (ne : a0 ≠ a1) (n0 : 0 ≤ cnt) (n1 : cnt ≤ 2 ^ 40) (m0 : 0 < m) (m1 : m < 1073741824)
    (hQ : ∀ (d : Int) (H3 : Hp) (cells : List Int) (cur mix : Int), 0 ≤ d → d < m → InD a0 a1 H H3 cells cur cnt mix → D.rt (.int d) H3) : tTail D [some (.ref a0), some (.int m), c, Option.none, Option.none] H' := by
  have h' := h
  obtain ⟨h0, h1, h2, h3, h4, c0, c1, x0, x1⟩ := h
  refine ⟨a0, _, _, rfl, h0, rfl, _, _, rfl, rfl, _, rfl, ?_⟩
  by_cases z : (0 : Int) < cur
  · refine ite_t (decide_eq_true z) ?_
    refine ⟨a0, _, _, rfl, h0, rfl, .inl ⟨cur, rfl, _, rfl, _, _, rfl, rfl, m0, ?_⟩⟩
    refine ⟨a0, _, _, rfl, h0, rfl, _, rfl, _, _, rfl, rfl, ⟨m0, m1⟩, a0, _, rfl, h0, (by show 1 < 4; decide), ?_⟩
    refine ⟨_, rfl, hQ _ _ cells (cur / m) mix (Int.emod_nonneg _ (by omega)) (Int.emod_lt_of_pos _ m0) (InD.set h' ne (Int.ediv_nonneg c0 (by omega)) ?_ x0 x1)⟩
    exact True.intro
  · refine ite_f (by rw [decide_eq_true_eq]; exact z) ?_
    refine ⟨a0, _, _, rfl, h0, rfl, a0, _, _, rfl, h0, rfl, _, _, rfl, rfl, ?_, _, _, rfl, rfl, _, _, rfl, rfl, _, _, rfl, rfl, ?_, .inl ⟨_, rfl, _, _, rfl, rfl, (show (0 : Int) < 2147483629 by decide), ?_⟩⟩
    · exact Or.inl ⟨by decide, by decide⟩
    · refine ⟨by decide, by decide, ?_⟩
      have : ((2 : Int) ^ 40) = 1099511627776 := by decide
      rw [this] at n1
      show (mix + 7907 * cnt + 104723).natAbs < 18446744073709551616
      omega
    have M0 : 0 ≤ ((mix + 7907 * cnt + 104723) ^ (5 : Int).toNat) % 2147483629 := Int.emod_nonneg _ (by decide)
    have M1 : ((mix + 7907 * cnt + 104723) ^ (5 : Int).toNat) % 2147483629 < 2147483629 := Int.emod_lt_of_pos _ (by decide)
    refine ⟨_, rfl, _, _, rfl, rfl, Or.inr ⟨by decide, by decide⟩, a0, _, _, rfl, h0, rfl, _, _, rfl, rfl, Or.inl ⟨by decide, by decide⟩, _, _, rfl, rfl, _, _, rfl, rfl, _, _, rfl, rfl, ?_, .inl ⟨_, rfl, _, _, rfl, rfl, (show (0 : Int) < 1000000007 by decide), _, rfl, _, _, rfl, rfl, m0, ?_⟩⟩
    · refine ⟨by decide, by decide, ?_⟩
      have : ((2 : Int) ^ 40) = 1099511627776 := by decide
      rw [this] at n1
      show (((mix + 7907 * cnt + 104723) ^ (5 : Int).toNat) % 2147483629 * 48271 + 30011 * cnt + 31).natAbs < 18446744073709551616
      generalize ((mix + 7907 * cnt + 104723) ^ (5 : Int).toNat) % 2147483629 = M at M0 M1 ⊢
      omega
    · exact hQ _ _ cells cur mix (Int.emod_nonneg _ (by omega)) (Int.emod_lt_of_pos _ m0) h'
theorem loop_ok {a0 a1 : Addr} {H H' : Hp} {cells : List Int} {cur cnt mix m : Int} {c : Option V} {D : Ends} (h : InD a0 a1 H H' cells cur cnt mix) (ne : a0 ≠ a1)
    (hn : ∀ (c : Option V) (H3 : Hp) (cells : List Int) (cur mix : Int), InD a0 a1 H H3 cells cur cnt mix → D.nx [some (.ref a0), some (.int m), c, Option.none, Option.none] H3) : tLoop D [some (.ref a0), some (.int m), c, Option.none, Option.none] H' := by
  refine ⟨fun k σ H2 => ∃ (cells : List Int) (cur mix : Int) (c : Option V), k = cells.length ∧ InD a0 a1 H H2 cells cur cnt mix ∧ σ = [some (.ref a0), some (.int m), c, Option.none, Option.none], ⟨cells.length, cells, cur, mix, c, rfl, h, rfl⟩, ?_⟩
  rintro k σ H2 ⟨cells, cur, mix, c, rfl, h, rfl⟩
  have h' := h
  obtain ⟨h0, h1, h2, h3, h4, c0, c1, x0, x1⟩ := h
  refine ⟨a0, _, _, rfl, h0, rfl, rfl, _, rfl, ?_⟩
  by_cases z : cur = 0
  · subst z
    refine ite_t (by decide) ?_
    refine ⟨a0, _, a1, cells, rfl, h0, rfl, h1, fun H3 k1 k2 => ?_⟩
    have e0 : H3 a0 = H2 a0 := k1 a0 (by rw [h0]; intro z; cases z)
    have e1 : H3 a1 = H2 a1 := k1 a1 (by rw [h1]; intro z; cases z)
    have i3 : InD a0 a1 H H3 cells 0 cnt mix := ⟨e0.trans h0, e1.trans h1, fun a z z1 q => by rw [k1 a (by rw [h2 a z z1 q]; exact q)]; exact h2 a z z1 q, h3, h4, c0, c1, x0, x1⟩
    cases cells with
    | nil => exact hn c H3 [] 0 mix i3
    | cons c1' cs =>
      refine ⟨fun σ' H4 => ∃ (cur mix : Int) (c : Option V), InD a0 a1 H H4 cs cur cnt mix ∧ σ' = [some (.ref a0), some (.int m), c, Option.none, Option.none], fun σ' H4 ⟨cur, mix, c, q, e⟩ => ⟨cs.length, Nat.lt_succ_self _, cs, cur, mix, c, rfl, q, e⟩, ?_⟩
      obtain ⟨g0, g1, g2, g3, g4, _, _, g5, g6⟩ := i3
      refine ⟨a0, _, a1, _, _, rfl, g0, rfl, g1, _, rfl, ?_⟩
      generalize hA : (if c1' < 0 then -c1' else c1') = A
      have A0 : 0 ≤ A := by
        rw [← hA]
        split <;> omega
      have A1 : True := True.intro
      have i4 : InD a0 a1 H (upd H3 a1 (.lst (cs.map V.int))) cs 0 cnt mix := ⟨by rw [upd_ne ne]; exact g0, upd_same, fun a z z1 q => by rw [upd_ne z1]; exact g2 a z z1 q, by simp at g3; omega, True.intro, Int.le_refl _, c1, g5, g6⟩
      refine ⟨a0, _, _, rfl, i4.1, rfl, _, _, rfl, rfl, Or.inr ⟨by decide, by decide⟩, _, rfl, _, _, rfl, rfl, _, _, rfl, rfl, .inl ⟨_, rfl, _, _, rfl, rfl, (show (0 : Int) < 2147483647 by decide), a0, _, rfl, i4.1, (by show 3 < 4; decide), ?_⟩⟩
      have i5 := InD.set (cnt' := cnt) i4 ne (cur' := 0) (mix' := (mix * 6151 + A + 5) % 2147483647) (Int.le_refl _) c1 (Int.emod_nonneg _ (by decide)) (Int.emod_lt_of_pos _ (by decide))
      refine ⟨_, rfl, _, _, rfl, rfl, ⟨by decide, by decide, by decide⟩, _, _, rfl, rfl, _, rfl, ?_⟩
      by_cases zz : (10 : Int) ^ (18 : Int).toNat ≤ A
      · refine ite_t (decide_eq_true zz) ?_
        refine ⟨_, rfl, a0, _, rfl, i5.1, (by show 1 < 4; decide), ?_⟩
        exact ⟨A, _, _, InD.set i5 ne A0 A1 i5.2.2.2.2.2.2.2.1 i5.2.2.2.2.2.2.2.2, rfl⟩
      · refine ite_f (by rw [decide_eq_true_eq]; exact zz) ?_
        refine ⟨a0, _, rfl, i5.1, (by show 1 < 4; decide), ?_⟩
        exact ⟨0, _, _, InD.set i5 ne (Int.le_refl _) c1 i5.2.2.2.2.2.2.2.1 i5.2.2.2.2.2.2.2.2, rfl⟩
  · refine ite_f (by
      rw [decide_eq_true_eq]
      intro e
      cases e
      exact z rfl) ?_
    exact hn c H2 cells cur mix h'
/-- the law's state stands, n draws at most are done -/
def StAt (a0 a1 : Addr) (H : Hp) (n : Nat) : Prop := a0 ≠ a1 ∧ ∃ (cells : List Int) (cur cnt mix : Int), H a0 = some (.lst [.ref a1, .int cur, .int cnt, .int mix]) ∧ H a1 = some (.lst (cells.map V.int)) ∧ cells.length ≤ 63 ∧ True ∧ 0 ≤ cur ∧ True ∧ 0 ≤ cnt ∧ cnt ≤ n ∧ 0 ≤ mix ∧ mix < 2147483647
/-- what is not the state's stays -/
def Kp (a0 a1 : Addr) (H H' : Hp) : Prop := ∀ a o, a ≠ a0 → a ≠ a1 → H a = some o → H' a = some o
abbrev nPick : List Str := ["state", "many", "cell", "digit", "mixed"]
abbrev sPick : Stmt := top 25
theorem scPick : FnScope nPick ["state", "many"] (defScope sPick) := ⟨rfl, rfl, rfl, by decide +kernel, rfl, by decide +kernel, by decide +kernel⟩
def spPick : Sp := fun vs H Q _ => ∃ (a0 a1 : Addr) (m : Int) (n : Nat), vs = [.ref a0, .int m] ∧ 0 < m ∧ m < 1073741824 ∧ n < 1000000 ∧ StAt a0 a1 H n ∧ ∀ (d : Int) (H' : Hp), 0 ≤ d → d < m → StAt a0 a1 H' (n + 1) → Kp a0 a1 H H' → Q (.int d) H'
theorem ok_pick {P : Program} {w : World} {mg : Str → Option Value} {base : Heap} {qual : Str} {f : Addr} {fd : FuncData} (F : Fun K "_law_pick" qual sPick f fd) (gA : mg "abs" = Option.none) (gI : mg "int" = Option.none) : FnOk P w K mg base CX0 1 f fd ["state", "many"] spPick := by
  refine F.ok scPick (fun vs H Q E h => ?_) (fun cdv A outer s H vs Q E hr h => ?_)
  · obtain ⟨a0, a1, m, n, rfl, _⟩ := h
    rfl
  apply Exists.intro
  apply And.intro
  case left =>
    apply pss_cons
    · exact ps_asg (pe_op op_add (pe_st 2 (by decide)) pe_int) (pg_st 2)
    apply pss_cons
    · apply ps_while
      · exact PassesOwn.never
      · exact PW.pt (pw_and (pt_cmpR op_eq (pe_st 1 (by decide)) pe_int (nob _)) (pw_and1 (pt_full hr.units)))
      apply pss_cons
      · exact ps_set (i := 2) scPick.nd rfl (Or.inl rfl) (pe_callB call_abs rfl gA (by decide +kernel : bootBuiltins "abs" = some (.builtin "abs")) (pa_cons pe_pop0 pa_nil))
      apply pss_cons
      · exact ps_asg (pe_op op_mod (pe_callTy call_int1 rfl gI (by decide +kernel : bootBuiltins "int" = some (.type "int")) (pa_cons (pe_op op_add (pe_op op_add (pe_op op_mul (pe_st 3 (by decide)) pe_int) (pe_var (i := 2) rfl (Or.inl rfl))) pe_int) pa_nil)) pe_int) (pg_st 3)
      apply pss_one
      exact ps_asg (pe_ifExp (pt_cmpR op_ge (pe_var (i := 2) rfl (Or.inl rfl)) (pe_op op_pow pe_int pe_int) (nob _)) (pe_var (i := 2) rfl (Or.inl rfl)) pe_int) (pg_st 1)
    apply pss_cons
    · apply ps_if
      · exact pt_cmpR op_gt (pe_st 1 (by decide)) pe_int (nob _)
      · apply pss_cons
        · exact ps_set (i := 3) scPick.nd rfl (Or.inl rfl) (pe_op op_mod (pe_callTy call_int1 rfl gI (by decide +kernel : bootBuiltins "int" = some (.type "int")) (pa_cons (pe_st 1 (by decide)) pa_nil)) (pe_var (i := 1) rfl (Or.inl rfl)))
        apply pss_cons
        · exact ps_asg (pe_op op_fdiv (pe_st 1 (by decide)) (pe_var (i := 1) rfl (Or.inl rfl))) (pg_st 1)
        apply pss_one
        exact ps_ret (pe_var (i := 3) rfl (Or.inl rfl))
      · exact pss_nil
    apply pss_cons
    · exact ps_set (i := 4) scPick.nd rfl (Or.inl rfl) (pe_op op_mod (pe_callTy call_int1 rfl gI (by decide +kernel : bootBuiltins "int" = some (.type "int")) (pa_cons (pe_op op_pow (pe_op op_add (pe_op op_add (pe_st 3 (by decide)) (pe_op op_mul pe_int (pe_st 2 (by decide)))) pe_int) pe_int) pa_nil)) pe_int)
    apply pss_one
    exact ps_ret (pe_op op_mod (pe_op op_mod (pe_callTy call_int1 rfl gI (by decide +kernel : bootBuiltins "int" = some (.type "int")) (pa_cons (pe_op op_pow (pe_op op_add (pe_op op_add (pe_op op_mul (pe_var (i := 4) rfl (Or.inl rfl)) pe_int) (pe_op op_mul pe_int (pe_st 2 (by decide)))) pe_int) pe_int) pa_nil)) pe_int) (pe_var (i := 1) rfl (Or.inl rfl)))
  case right =>
    obtain ⟨a0, a1, m, n, rfl, m0, m1, hn, ⟨ne, cells, cur, cnt, mix, h0, h1, hl, hc, c0, c1, n0, n1, x0, x1⟩, hP⟩ := h
    have i0 : InD a0 a1 H H cells cur cnt mix := ⟨h0, h1, fun _ _ _ _ => rfl, hl, hc, c0, c1, x0, x1⟩
    show tPick _ [some (.ref a0), some (.int m), Option.none, Option.none, Option.none] H
    refine ⟨a0, _, _, rfl, h0, rfl, _, _, rfl, rfl, a0, _, rfl, h0, (by show 2 < 4; decide), ?_⟩
    refine loop_ok (InD.set (cnt' := cnt + 1) i0 ne c0 c1 x0 x1) ne fun c H3 cells cur mix h3 => ?_
    refine tail_ok h3 ne (by omega) (by
      have : ((2 : Int) ^ 40) = 1099511627776 := by decide
      rw [this]
      omega) m0 m1 fun d H4 cells cur mix d0 d1 h4 => ?_
    obtain ⟨g0, g1, g2, g3, g4, g5, g6, g7, g8⟩ := h4
    refine hP d H4 d0 d1 ⟨ne, cells, cur, cnt + 1, mix, g0, g1, g3, g4, g5, g6, by omega, by omega, g7, g8⟩ fun a o z0 z1 e => ?_
    rw [g2 a z0 z1 (by rw [e]; intro z; cases z)]
    exact e
end L2.E9

set_option Elab.async false
set_option linter.all false
set_option maxRecDepth 100000
set_option maxHeartbeats 4000000
/-! k89, part f: the start, a number between, an object. -/
namespace L2.E9
open PySem PySem.Spec L2
open PyProof.Rows (envOfC)
structure DefAt (K : PySem.W.Frag) (mg : Str → Option Value) (x : Str) (st : Stmt) (ps : List Str) (f : Addr) (fd : FuncData) : Prop where
  F : Fun K x x st f fd
  g : mg x = some (.ref f)
  b : L2.Binds K fd ps []
theorem Kp.refl {a0 a1 : Addr} (H : Hp) : Kp a0 a1 H H := fun _ _ _ _ e => e
theorem Kp.trans {a0 a1 : Addr} {H H1 H2 : Hp} (x : Kp a0 a1 H H1) (y : Kp a0 a1 H1 H2) : Kp a0 a1 H H2 := fun a o z0 z1 e => y a o z0 z1 (x a o z0 z1 e)
theorem Kp.new {a0 a1 p : Addr} {H H1 : Hp} {o : HO} (x : Kp a0 a1 H H1) (n : H1 p = none) : Kp a0 a1 H (upd H1 p o) := fun a u z0 z1 e => by
  have q := x a u z0 z1 e
  rw [upd_ne (ne_of_none q n)]
  exact q
theorem Kp.same {a0 a1 : Addr} {H H1 : Hp} (s : Same H H1) : Kp a0 a1 H H1 := fun a o _ _ e => s a o e
theorem StAt.mono {a0 a1 : Addr} {H : Hp} {n m : Nat} (s : StAt a0 a1 H n) (h : n ≤ m) : StAt a0 a1 H m := by
  obtain ⟨ne, cells, cur, cnt, mix, h0, h1, hl, hc, c0, c1, n0, n1, x0, x1⟩ := s
  exact ⟨ne, cells, cur, cnt, mix, h0, h1, hl, hc, c0, c1, n0, by omega, x0, x1⟩
theorem StAt.same {a0 a1 : Addr} {H H' : Hp} {n : Nat} (s : StAt a0 a1 H n) (e : Same H H') : StAt a0 a1 H' n := by
  obtain ⟨ne, cells, cur, cnt, mix, h0, h1, r⟩ := s
  exact ⟨ne, cells, cur, cnt, mix, e _ _ h0, e _ _ h1, r⟩
theorem same_new {H : Hp} {p : Addr} {o : HO} (n : H p = none) : Same H (upd H p o) := fun b u e => by
  rw [upd_ne (ne_of_none e n)]
  exact e
theorem StAt.new {a0 a1 p : Addr} {H : Hp} {n : Nat} {o : HO} (s : StAt a0 a1 H n) (e : H p = none) : StAt a0 a1 (upd H p o) n := s.same (same_new e)
theorem StAt.ne {a0 a1 p : Addr} {H : Hp} {n : Nat} (s : StAt a0 a1 H n) (e : H p = none) : p ≠ a0 ∧ p ≠ a1 := by
  obtain ⟨ne, cells, cur, cnt, mix, h0, h1, r⟩ := s
  exact ⟨fun z => (by rw [z, h0] at e; cases e), fun z => (by rw [z, h1] at e; cases e)⟩
/-! ### _law_start -/
abbrev sStart : Stmt := top 24
theorem scStart : FnScope ["script"] ["script"] (defScope sStart) := ⟨rfl, rfl, rfl, by decide +kernel, rfl, by decide +kernel, by decide +kernel⟩
def spStart (K : PySem.W.Frag) : Sp := fun vs H Q _ => ∃ (a : Addr) (ns : List Int), vs = [.ref a] ∧ SqL K H a (ns.map V.int) ∧ ns.length ≤ 63 ∧ ∀ (a0 a1 : Addr) (H' : Hp), StAt a0 a1 H' 0 → Q (.ref a0) H'
section
variable {P : Program} {w : World} {K : PySem.W.Frag} {mg : Str → Option Value} {base : Heap}
theorem ok_start {f : Addr} {fd : FuncData} (F : Fun K "_law_start" "_law_start" sStart f fd) (gL : mg "list" = none) : FnOk P w K mg base CX0 1 f fd ["script"] (spStart K) := by
  refine F.ok scStart (fun vs H Q E h => ?_) (fun cdv A outer s H vs Q E hr h => ?_)
  · obtain ⟨a, ns, rfl, _⟩ := h
    rfl
  apply Exists.intro
  apply And.intro
  case left =>
    exact pss_one (ps_ret (pe_lst (pa_cons (pe_callTy call_list_of rfl gL (by decide +kernel : bootBuiltins "list" = some (.type "list")) (pa_cons (pv 0) pa_nil)) (pa_cons pe_int (pa_cons pe_int (pa_cons pe_int pa_nil))))))
  case right =>
    obtain ⟨a, ns, rfl, hS, hl, hQ⟩ := h
    refine ⟨_, rfl, a, _, rfl, .inl hS, fun l hl' => ?_⟩
    refine ⟨(by show 4 ≤ sizeLine; decide), fun p hp => ?_⟩
    have ne : l ≠ p := ne_of_none upd_same hp
    refine hQ p l _ ⟨Ne.symm ne, ns, 0, 0, 29, upd_same, ?_, hl, True.intro, Int.le_refl _, True.intro, Int.le_refl _, by decide, by decide, by decide⟩
    · rw [upd_ne ne]
      exact upd_same
/-! ### _law_between -/
abbrev sBet : Stmt := top 26
abbrev nBet : List Str := ["state", "low", "high"]
theorem scBet : FnScope nBet ["state", "low", "high"] (defScope sBet) := ⟨rfl, rfl, rfl, by decide +kernel, rfl, by decide +kernel, by decide +kernel⟩
def spBet : Sp := fun vs H Q _ => ∃ (a0 a1 : Addr) (lo hi : Int) (n : Nat), vs = [.ref a0, .int lo, .int hi] ∧ lo ≤ hi ∧ hi - lo < 1000 ∧ n < 1000000 ∧ StAt a0 a1 H n ∧ ∀ (d : Int) (H' : Hp), StAt a0 a1 H' (n + 1) → Kp a0 a1 H H' → Q (.int d) H'
theorem ok_bet {f fP : Addr} {fd fdP : FuncData} (F : Fun K "_law_between" "_law_between" sBet f fd) (gM : mg "max" = none) (DP : DefAt K mg "_law_pick" sPick ["state", "many"] fP fdP) (OP : FnOk P w K mg base CX0 1 fP fdP ["state", "many"] spPick) : FnOk P w K mg base CX0 2 f fd ["state", "low", "high"] spBet := by
  refine F.ok scBet (fun vs H Q E h => ?_) (fun cdv A outer s H vs Q E hr h => ?_)
  · obtain ⟨a0, a1, lo, hi, n, rfl, _⟩ := h
    rfl
  apply Exists.intro
  apply And.intro
  case left =>
    exact pss_one (ps_ret (pe_op op_add (pv 1) (pe_call OP hr rfl DP.g DP.F.kp DP.b .nil pass0 (pa_cons (pv 0) (pa_cons (pe_op op_add (pe_callB (call_max2 rfl) rfl gM (by decide +kernel : bootBuiltins "max" = some (.builtin "max")) (pa_cons (pe_op op_sub (pv 2) (pv 1)) (pa_cons pe_int pa_nil))) pe_int) pa_nil)))))
  case right =>
    obtain ⟨a0, a1, lo, hi, n, rfl, h1, h2, hn, hS, hQ⟩ := h
    refine ⟨_, rfl, _, rfl, _, rfl, _, rfl, _, _, rfl, rfl, _, _, rfl, _, _, rfl, rfl, ?_⟩
    refine ⟨a0, a1, _, n, rfl, ?_, ?_, hn, hS, fun d H' d0 d1 hS' hK => ⟨_, _, rfl, rfl, hQ _ _ hS' hK⟩⟩
    · split <;> omega
    · split <;> omega
/-! ### _law_object -/
/-- the objects that are drawn -/
inductive ObV (a0 a1 : Addr) (H : Hp) : V → Prop
  | int (i : Int) : ObV a0 a1 H (.int i)
  | str (z : Str) : ObV a0 a1 H (.str z)
  | non : ObV a0 a1 H .non
  | bl (b : Bool) : ObV a0 a1 H (.bl b)
  | tup {p : Addr} (k : Int) (h : H p = some (.tup [.int 1, .int k])) (n0 : p ≠ a0) (n1 : p ≠ a1) : ObV a0 a1 H (.ref p)
  | lst {p q : Addr} (k : Int) (h : H p = some (.lst [.int k, .ref q])) (g : H q = some (.lst [.int 1])) (n0 : p ≠ a0) (n1 : p ≠ a1) (m0 : q ≠ a0) (m1 : q ≠ a1) (ne : p ≠ q) : ObV a0 a1 H (.ref p)
  | dic {p : Addr} (k : Int) (h : H p = some (.dK [(.inr "a", .int k)])) (n0 : p ≠ a0) (n1 : p ≠ a1) : ObV a0 a1 H (.ref p)
theorem ObV.kp {a0 a1 : Addr} {H H' : Hp} {v : V} (o : ObV a0 a1 H v) (k : Kp a0 a1 H H') : ObV a0 a1 H' v := by
  cases o with
  | int i => exact .int i
  | str z => exact .str z
  | non => exact .non
  | bl b => exact .bl b
  | tup i h n0 n1 => exact .tup i (k _ _ n0 n1 h) n0 n1
  | lst i h g n0 n1 m0 m1 ne => exact .lst i (k _ _ n0 n1 h) (k _ _ m0 m1 g) n0 n1 m0 m1 ne
  | dic i h n0 n1 => exact .dic i (k _ _ n0 n1 h) n0 n1
abbrev sObj : Stmt := top 30
abbrev nObj : List Str := ["state", "way"]
theorem scObj : FnScope nObj ["state"] (defScope sObj) := ⟨rfl, rfl, rfl, by decide +kernel, rfl, by decide +kernel, by decide +kernel⟩
def spObj : Sp := fun vs H Q _ => ∃ (a0 a1 : Addr) (n : Nat), vs = [.ref a0] ∧ n < 900000 ∧ StAt a0 a1 H n ∧ ∀ (v : V) (H' : Hp), StAt a0 a1 H' (n + 3) → Kp a0 a1 H H' → ObV a0 a1 H' v → Q v H'
theorem small_str : ∀ k : Fin 99, (Str.ofString "w").length + (Str.ofString (toString (k.val : Int))).length ≤ 30 := by decide +kernel
theorem ok_obj {f fP fB : Addr} {fd fdP fdB : FuncData} (F : Fun K "_law_object" "_law_object" sObj f fd) (gS : mg "str" = none) (DP : DefAt K mg "_law_pick" sPick ["state", "many"] fP fdP) (OP : FnOk P w K mg base CX0 1 fP fdP ["state", "many"] spPick)
    (DB : DefAt K mg "_law_between" sBet ["state", "low", "high"] fB fdB) (OB : FnOk P w K mg base CX0 2 fB fdB ["state", "low", "high"] spBet) : FnOk P w K mg base CX0 3 f fd ["state"] spObj := by
  refine F.ok scObj (fun vs H Q E h => ?_) (fun cdv A outer s H vs Q E hr h => ?_)
  · obtain ⟨a0, a1, n, rfl, _⟩ := h
    rfl
  have hr1 : Room 1 _ := hr.mono (by decide)
  apply Exists.intro
  apply And.intro
  case left =>
    apply pss_cons
    · exact ps_set (i := 1) scObj.nd rfl (Or.inl rfl) (pe_call OP hr1 rfl DP.g DP.F.kp DP.b .nil pass0 (pa_cons (pv 0) (pa_cons pe_int pa_nil)))
    apply pss_cons
    · exact ps_if (pt_cmpR op_lt (pv 1) pe_int (nob _)) (pss_one (ps_ret (pe_ix ix_list (pe_lst (pa_cons (pe_call OB hr rfl DB.g DB.F.kp DB.b .nil pass0 (pa_cons (pv 0) (pa_cons (pe_un un_neg pe_int) (pa_cons pe_int pa_nil))))
        (pa_cons (pe_op op_add_str pe_str (pe_callTy call_str_int rfl gS (by decide +kernel : bootBuiltins "str" = some (.type "str")) (pa_cons (pe_call OP hr1 rfl DP.g DP.F.kp DP.b .nil pass0 (pa_cons (pv 0) (pa_cons pe_int pa_nil))) pa_nil))) pa_nil))) (pv 1) (fun _ _ => rfl)))) pss_nil
    apply pss_cons
    · exact ps_if (pt_cmpR op_lt (pv 1) pe_int (nob _)) (pss_one (ps_ret (pe_ix ix_list (pe_lst (pa_cons pe_non (pa_cons (pe_cmpR op_eq (pe_call OP hr1 rfl DP.g DP.F.kp DP.b .nil pass0 (pa_cons (pv 0) (pa_cons pe_int pa_nil))) pe_int (nob _))
        (pa_cons (pe_tup (pa_cons pe_int (pa_cons (pe_call OP hr1 rfl DP.g DP.F.kp DP.b .nil pass0 (pa_cons (pv 0) (pa_cons pe_int pa_nil))) pa_nil))) pa_nil)))) (pe_op op_sub (pv 1) pe_int) (fun _ _ => rfl)))) pss_nil
    apply pss_one
    exact ps_ret (pe_ifExp (pt_cmpR op_eq (pv 1) pe_int (nob _)) (pe_lst (pa_cons (pe_call OP hr1 rfl DP.g DP.F.kp DP.b .nil pass0 (pa_cons (pv 0) (pa_cons pe_int pa_nil))) (pa_cons (pe_lst (pa_cons pe_int pa_nil)) pa_nil)))
      (pe_disp (pps_cons pe_str (pe_call OP hr1 rfl DP.g DP.F.kp DP.b .nil pass0 (pa_cons (pv 0) (pa_cons pe_int pa_nil))) pps_nil) rfl rfl (by decide) (by decide)))
  case right =>
    obtain ⟨a0, a1, n, rfl, hn, hS, hQ⟩ := h
    refine ⟨_, rfl, a0, a1, 7, n, rfl, by decide, by decide, by omega, hS, fun way H1 w0 w1 hS1 hK1 => ?_⟩
    by_cases z : way < 2
    · refine ⟨_, rfl, _, _, rfl, rfl, _, rfl, ite_t (decide_eq_true z) ?_⟩
      refine ⟨_, rfl, 9, rfl, a0, a1, -9, 9, n + 1, rfl, by decide, by decide, by omega, hS1, fun d H2 hS2 hK2 => ?_⟩
      refine ⟨_, rfl, a0, a1, 99, n + 2, rfl, by decide, by decide, by omega, hS2, fun k H3 k0 k1 hS3 hK3 => ?_⟩
      obtain ⟨kn, hk⟩ : ∃ kn : Fin 99, k = (kn.val : Int) := ⟨⟨k.toNat, by omega⟩, by show k = ((k.toNat : Nat) : Int); omega⟩
      refine ⟨k, rfl, ?_, _, _, rfl, rfl, ?_, by show 2 ≤ sizeLine; decide, fun p hp => ?_⟩
      · have : k.natAbs.log2 ≤ k.natAbs := Nat.log2_le_self _
        omega
      · rw [hk]
        exact Nat.le_trans (small_str kn) (by decide)
      have hS4 := hS3.new (o := .lst [.int d, .str ("w" ++ toString k)]) hp
      have hK4 := ((hK1.trans hK2).trans hK3).new (o := .lst [.int d, .str ("w" ++ toString k)]) hp
      have hw : way = 0 ∨ way = 1 := by omega
      rcases hw with rfl | rfl
      · exact ⟨_, rfl, p, _, 0, _, rfl, rfl, SqL.of upd_same, rfl, hQ _ _ hS4 hK4 (.int d)⟩
      · exact ⟨_, rfl, p, _, 1, _, rfl, rfl, SqL.of upd_same, rfl, hQ _ _ hS4 hK4 (.str _)⟩
    refine ⟨_, rfl, _, _, rfl, rfl, _, rfl, ite_f (by rw [decide_eq_true_eq]; exact z) ?_⟩
    by_cases z2 : way < 5
    · refine ⟨_, rfl, _, _, rfl, rfl, _, rfl, ite_t (decide_eq_true z2) ?_⟩
      refine ⟨_, rfl, a0, a1, 2, n + 1, rfl, by decide, by decide, by omega, hS1, fun d H2 d0 d1 hS2 hK2 => ?_⟩
      refine ⟨rfl, _, rfl, a0, a1, 9, n + 2, rfl, by decide, by decide, by omega, hS2, fun k H3 k0 k1 hS3 hK3 => ?_⟩
      refine ⟨by show 2 ≤ sizeLine; decide, fun t ht => ?_⟩
      refine ⟨by show 3 ≤ sizeLine; decide, fun p hp => ?_⟩
      have hS4 := hS3.new (o := .tup [.int 1, .int k]) ht
      obtain ⟨t0, t1⟩ := hS3.ne ht
      have hK4 := ((hK1.trans hK2).trans hK3).new (o := .tup [.int 1, .int k]) ht
      have hS5 := hS4.new (o := .lst [.non, .bl (decide (V.int d = V.int 0)), .ref t]) hp
      have hK5 := hK4.new (o := .lst [.non, .bl (decide (V.int d = V.int 0)), .ref t]) hp
      have hw : way = 2 ∨ way = 3 ∨ way = 4 := by omega
      rcases hw with rfl | rfl | rfl
      · exact ⟨_, rfl, _, _, rfl, rfl, p, _, 0, _, rfl, rfl, SqL.of upd_same, rfl, hQ _ _ hS5 hK5 .non⟩
      · exact ⟨_, rfl, _, _, rfl, rfl, p, _, 1, _, rfl, rfl, SqL.of upd_same, rfl, hQ _ _ hS5 hK5 (.bl _)⟩
      · refine ⟨_, rfl, _, _, rfl, rfl, p, _, 2, _, rfl, rfl, SqL.of upd_same, rfl, hQ _ _ hS5 hK5 (.tup k ?_ t0 t1)⟩
        rw [upd_ne (ne_of_none upd_same hp)]
        exact upd_same
    refine ⟨_, rfl, _, _, rfl, rfl, _, rfl, ite_f (by rw [decide_eq_true_eq]; exact z2) ?_⟩
    by_cases z3 : way = 5
    · refine ⟨_, rfl, rfl, _, rfl, ite_t (decide_eq_true (congrArg V.int z3)) ?_⟩
      refine ⟨_, rfl, a0, a1, 9, n + 1, rfl, by decide, by decide, by omega, hS1, fun k H2 k0 k1 hS2 hK2 => ?_⟩
      refine ⟨by show 1 ≤ sizeLine; decide, fun q hq => ?_⟩
      refine ⟨by show 2 ≤ sizeLine; decide, fun p hp => ?_⟩
      have hS3 := hS2.new (o := .lst [.int 1]) hq
      obtain ⟨q0, q1⟩ := hS2.ne hq
      obtain ⟨p0, p1⟩ := hS3.ne hp
      have hS4 := hS3.new (o := .lst [.int k, .ref q]) hp
      have hK4 := ((hK1.trans hK2).new (o := .lst [.int 1]) hq).new (o := .lst [.int k, .ref q]) hp
      have nqp : q ≠ p := ne_of_none upd_same hp
      refine hQ _ _ (hS4.mono (by omega)) hK4 (.lst k upd_same ?_ p0 p1 q0 q1 (Ne.symm nqp))
      rw [upd_ne nqp]
      exact upd_same
    · refine ⟨_, rfl, rfl, _, rfl, ite_f (by rw [decide_eq_true_eq]; exact fun e => z3 (V.int.inj e)) ?_⟩
      intro p hp
      have hS2 := hS1.new (o := .dK []) hp
      obtain ⟨p0, p1⟩ := hS1.ne hp
      refine ⟨_, rfl, a0, a1, 9, n + 1, rfl, by decide, by decide, by omega, hS2, fun k H3 k0 k1 hS3 hK3 => ?_⟩
      have e3 := hK3 p _ p0 p1 upd_same
      refine ⟨e3, [(.inr "a", .int k)], rfl, (by show 1 ≤ 15; decide), ?_⟩
      have kp : ∀ {o : HO} {a : Addr}, a ≠ p → upd H3 p o a = H3 a := fun h => upd_ne h
      obtain ⟨ne, cells, cur, cnt, mix, h0, h1, r⟩ := hS3
      refine hQ _ _ ⟨ne, cells, cur, cnt, mix, by rw [kp (Ne.symm p0)]; exact h0, by rw [kp (Ne.symm p1)]; exact h1, by obtain ⟨r1, r2, r3, r4, r5, r6, r7⟩ := r; exact ⟨r1, r2, r3, r4, r5, by omega, r7⟩⟩ (fun a o z0 z1 e => ?_) (.dic k upd_same p0 p1)
      have e1 := hK1 a o z0 z1 e
      have na : a ≠ p := ne_of_none e1 hp
      rw [kp na]
      exact hK3 a o z0 z1 (by rw [upd_ne na]; exact e1)
end
end L2.E9

set_option Elab.async false
set_option linter.all false
set_option maxRecDepth 100000
set_option maxHeartbeats 4000000
/-! k89, part g: which classes an error is of. -/
namespace L2.E9
open PySem PySem.Spec L2
open PyProof.Rows (envOfC)
def nm : Nat → Str
  | 0 => "BadClosing"
  | 1 => "BadOwn"
  | 2 => "BadNews"
  | 3 => "BadRules"
  | 4 => "BadDay"
  | 5 => "BadEvent"
  | 6 => "BadNames"
  | 7 => "BadLengths"
  | 8 => "BadBook"
  | 9 => "BadTimes"
  | 10 => "BadNow"
  | 11 => "BadKnown"
  | 12 => "BadLine"
  | 13 => "BadTable"
  | 14 => "BadLines"
  | 15 => "BadOther"
  | 16 => "BadDayText"
  | 17 => "BadBookText"
  | 18 => "BadAnswer"
  | 19 => "BadAnswerText"
  | _ => "BadWholeText"
def fl : Nat → Str
  | 0 => "closing"
  | 1 => "own"
  | 2 => "index"
  | 3 => "index"
  | 4 => "day"
  | 5 => "event"
  | 6 => "names"
  | 7 => "lengths"
  | 8 => "book"
  | 9 => "times"
  | 10 => "now"
  | 11 => "known"
  | 12 => "line"
  | 13 => "table"
  | 14 => "lines"
  | 15 => "other"
  | 16 => "line"
  | 17 => "line"
  | 18 => "answer"
  | 19 => "line"
  | _ => "line"
abbrev cA (K : PySem.W.Frag) (i : Nat) : Addr := He.ga K (nm i)
abbrev iA (K : PySem.W.Frag) (i : Nat) : Addr := He.ma K (cA K i) "__init__"
/-- a class by its name, ready to be made, read and asked of -/
structure ErH (P : Program) (w : World) (K : PySem.W.Frag) (mg : Str → Option Value) (base : Heap) (i : Nat) : Prop where
  g : mg (nm i) = some (.ref (cA K i))
  kp : PySem.W.keepIn K (.ref (cA K i)) = true
  T : ErC K (cA K i) (iA K i) (fl i)
  xf : XfC K (cA K i)
  ex : ExcC K (cA K i)
  ok : ∃ fd, FnOk P w K mg base CX0 1 (iA K i) fd ["self", fl i] (spIni K (cA K i) (fl i)) ∧ L2.Binds K fd ["self", fl i] [] ∧ ∀ (s : Shared) (a u : Value), BindsTo s fd ⟨[a], [(fl i, u)]⟩ [("self", a), (fl i, u)]
section
variable {X : Cx} {i : Nat} {e : Expr} {ta : TE} {p pos : Pos}
theorem pe_er (h : ErH X.prog X.w X.K X.mg X.base i) (hr : Room 2 X.A) (hg : Gl X (nm i)) (ha : PE X e ta) (hdb : (nm i == ("__debug__" : Str)) = false := by decide) (he : starEach [e] X.env = (false, eval e X.env) :: starEach [] X.env := by rfl) (hpl : (backTo pos (starEach [] X.env)).any (·.1) = false := by rfl) :
    PE X (.Call (.Name (nm i) p) [e] [] pos) (tMk (cA X.K i) (fl i) ta) := by
  obtain ⟨fd, F, b, k⟩ := h.ok
  exact pe_mk h.T F hr b pass0 hg h.g h.kp ha hdb he hpl
theorem pe_erk {kpos : Pos} (h : ErH X.prog X.w X.K X.mg X.base i) (hr : Room 2 X.A) (hg : Gl X (nm i)) (ha : PE X e ta)
    (hall : (backToKw pos (keywordEach [⟨some (fl i), e, kpos⟩] X.env)).all (·.1.isSome) = true := by rfl) (hks : (backToKw pos (keywordEach [⟨some (fl i), e, kpos⟩] X.env)).filterMap (·.1) = [fl i] := by rfl) (hdb : (nm i == ("__debug__" : Str)) = false := by decide)
    (hpl : ((backTo pos (starEach [] X.env)).any (·.1) || (backToKw pos (keywordEach [⟨some (fl i), e, kpos⟩] X.env)).any (·.1.isNone)) = false := by rfl) :
    PE X (.Call (.Name (nm i) p) [] [⟨some (fl i), e, kpos⟩] pos) (tMk (cA X.K i) (fl i) ta) := by
  obtain ⟨fd, F, b, k⟩ := h.ok
  exact pe_mkk h.T F hr k pass0 hg h.g h.kp ha hall hks hdb hpl
end
theorem pe_gref {X : Cx} {x : Str} {C : Addr} {pos : Pos} (hg : Gl X x) (hm : X.mg x = some (.ref C)) (hd : (x == ("__debug__" : Str)) = false := by decide) : PE X (.Name x pos) (tC (.ref C)) := pe_glob (v := .ref C) hg hm rfl hd
/-- the list that grows: at p, all else as it was -/
def Gr (H Hk : Hp) (p : Addr) (xs : List V) : Prop := H p = none ∧ Same H Hk ∧ Hk p = some (.lst xs)
theorem Gr.start {H : Hp} {p : Addr} {xs : List V} (hp : H p = none) : Gr H (upd H p (.lst xs)) p xs := ⟨hp, same_new hp, upd_same⟩
theorem Gr.more {H Hk : Hp} {p q : Addr} {xs zs : List V} (g : Gr H Hk p xs) (hq : Hk q = none) : Gr H (upd (upd Hk q (.lst zs)) p (.lst (xs ++ zs))) p (xs ++ zs) := by
  obtain ⟨g1, g2, g3⟩ := g
  refine ⟨g1, fun b o e => ?_, upd_same⟩
  rw [upd_ne (ne_of_none e g1), upd_ne (ne_of_none (g2 b o e) hq)]
  exact g2 b o e
theorem Gr.at {H Hk : Hp} {p q : Addr} {xs zs : List V} (g : Gr H Hk p xs) (hq : Hk q = none) : upd Hk q (.lst zs) p = some (.lst xs) := by
  rw [upd_ne (ne_of_none g.2.2 hq)]
  exact g.2.2
/-- the numbers below 21 that b says -/
def ksOf (b : Nat → Bool) : Nat → List Int
  | 0 => []
  | n + 1 => if b n = true then ksOf b n ++ [(n : Int)] else ksOf b n
abbrev sKi : Stmt := top 27
abbrev nKi : List Str := ["e", "told", "k"]
theorem scKi : FnScope nKi ["e"] (defScope sKi) := ⟨rfl, rfl, rfl, by decide +kernel, rfl, by decide +kernel, by decide +kernel⟩
/-- all answers of isinstance(.., C) -/
def Kit (K : PySem.W.Frag) (C : Addr) (b : Nat → Bool) : Prop := ∀ j, j < 21 → PySem.W.kitOne K (.ref C) (.ref (cA K j)) = some (b j)
def toldL (b : Nat → Bool) : List V := [.bl (b 0), .bl (b 1), .bl (b 2), .bl (b 3), .bl (b 4), .bl (b 5), .bl (b 6), .bl (b 7), .bl (b 8), .bl (b 9), .bl (b 10), .bl (b 11), .bl (b 12), .bl (b 13), .bl (b 14), .bl (b 15), .bl (b 16), .bl (b 17), .bl (b 18), .bl (b 19), .bl (b 20)]
theorem omega_abs {n : Nat} {A : Prop} (h : n + 21 < 21) : A := absurd h (by omega)
theorem told_at (b : Nat → Bool) : ∀ i : Nat, i < 21 → (toldL b)[i]? = some (V.bl (b i)) := by
  intro i hi
  match i, hi with
  | 0, _ => rfl
  | 1, _ => rfl
  | 2, _ => rfl
  | 3, _ => rfl
  | 4, _ => rfl
  | 5, _ => rfl
  | 6, _ => rfl
  | 7, _ => rfl
  | 8, _ => rfl
  | 9, _ => rfl
  | 10, _ => rfl
  | 11, _ => rfl
  | 12, _ => rfl
  | 13, _ => rfl
  | 14, _ => rfl
  | 15, _ => rfl
  | 16, _ => rfl
  | 17, _ => rfl
  | 18, _ => rfl
  | 19, _ => rfl
  | 20, _ => rfl
  | n + 21, h => exact omega_abs h

theorem atI_nat {xs : List V} {i : Nat} {v : V} (h : xs[i]? = some v) : atI xs (i : Int) = some v := by
  have hl := (List.getElem?_eq_some_iff.mp h).1
  unfold atI ixN
  rw [if_pos (by omega), if_pos (by omega)]
  exact h
theorem ksOf_succ (b : Nat → Bool) (n : Nat) : ksOf b (n + 1) = if b n = true then ksOf b n ++ [(n : Int)] else ksOf b n := rfl
theorem ksOf_len (b : Nat → Bool) : ∀ n, (ksOf b n).length ≤ n
  | 0 => Nat.le_refl _
  | n + 1 => by
    have ih := ksOf_len b n
    unfold ksOf
    split
    · rw [List.length_append]
      show _ + 1 ≤ n + 1
      omega
    · omega

theorem bIsi : bootBuiltins "isinstance" = some (.builtin "isinstance") := by decide +kernel
def spKi (K : PySem.W.Frag) : Sp := fun vs H Q _ => ∃ (a C : Addr) (b : Nat → Bool), vs = [.ref a] ∧ EkAt H a C ∧ ExcC K C ∧ Kit K C b ∧ ∀ (p : Addr) (H' : Hp), Same H H' → H p = none → H' p = some (.lst ((ksOf b 21).map V.int)) → Q (.ref p) H'
def spKiP (K : PySem.W.Frag) : Addr × Obj → Sp := fun q vs H Q _ => ∃ (C dd : Addr) (b : Nat → Bool), vs = [.ref q.1] ∧ (∃ o, H dd = some o) ∧ Zc (.ref C) (some dd) q.2 ∧ (∃ us, q.2.data = .fields us) ∧ ExcC K C ∧ Kit K C b ∧ ∀ (p : Addr) (H' : Hp), Same H H' → H p = none → H' p = some (.lst ((ksOf b 21).map V.int)) → Q (.ref p) H'
theorem EkAt.same {H H' : Hp} {a C : Addr} (e : EkAt H a C) (s : Same H H') : EkAt H' a C := by
  rcases e with ⟨d, o, h1, h2⟩ | h
  · exact .inl ⟨d, o, s _ _ h1, s _ _ h2⟩
  · exact .inr (s _ _ h)
section
variable {P : Program} {w : World} {K : PySem.W.Frag} {mg : Str → Option Value} {base : Heap}
theorem ok_ki {f : Addr} {fd : FuncData} (F : Fun K "_law_kinds" "_law_kinds" sKi f fd) (gI : mg "isinstance" = none) (gR : mg "range" = none) (CL : ∀ i, i < 21 → mg (nm i) = some (.ref (cA K i))) : FnOk P w K mg base CX0 1 f fd ["e"] (spKi K) := by
  refine F.ok scKi (fun vs H Q E h => ?_) (fun cdv A outer s H vs Q E hr h => ?_)
  · obtain ⟨a, C, b, rfl, _⟩ := h
    rfl
  apply Exists.intro
  apply And.intro
  case left =>
    apply pss_cons
    · exact ps_asg (pe_lst (pa_cons (pe_callB call_ek rfl gI bIsi (pa_cons (pv 0) (pa_cons (pe_gref rfl (CL 0 (by decide))) pa_nil))) (pa_cons (pe_callB call_ek rfl gI bIsi (pa_cons (pv 0) (pa_cons (pe_gref rfl (CL 1 (by decide))) pa_nil))) (pa_cons (pe_callB call_ek rfl gI bIsi (pa_cons (pv 0) (pa_cons (pe_gref rfl (CL 2 (by decide))) pa_nil))) (pa_cons (pe_callB call_ek rfl gI bIsi (pa_cons (pv 0) (pa_cons (pe_gref rfl (CL 3 (by decide))) pa_nil))) pa_nil))))) (pg_name (i := 1) scKi.nd rfl (Or.inr rfl))
    apply pss_cons
    · exact ps_expr (pe_bm PySem.F.plainAttrs_list PySem.F.slot_list_extend PySem.F.type_list_extend mt_extend (pv 1) (pa_cons (pe_lst (pa_cons (pe_callB call_ek rfl gI bIsi (pa_cons (pv 0) (pa_cons (pe_gref rfl (CL 4 (by decide))) pa_nil))) (pa_cons (pe_callB call_ek rfl gI bIsi (pa_cons (pv 0) (pa_cons (pe_gref rfl (CL 5 (by decide))) pa_nil))) (pa_cons (pe_callB call_ek rfl gI bIsi (pa_cons (pv 0) (pa_cons (pe_gref rfl (CL 6 (by decide))) pa_nil))) (pa_cons (pe_callB call_ek rfl gI bIsi (pa_cons (pv 0) (pa_cons (pe_gref rfl (CL 7 (by decide))) pa_nil))) pa_nil))))) pa_nil))
    apply pss_cons
    · exact ps_expr (pe_bm PySem.F.plainAttrs_list PySem.F.slot_list_extend PySem.F.type_list_extend mt_extend (pv 1) (pa_cons (pe_lst (pa_cons (pe_callB call_ek rfl gI bIsi (pa_cons (pv 0) (pa_cons (pe_gref rfl (CL 8 (by decide))) pa_nil))) (pa_cons (pe_callB call_ek rfl gI bIsi (pa_cons (pv 0) (pa_cons (pe_gref rfl (CL 9 (by decide))) pa_nil))) (pa_cons (pe_callB call_ek rfl gI bIsi (pa_cons (pv 0) (pa_cons (pe_gref rfl (CL 10 (by decide))) pa_nil))) (pa_cons (pe_callB call_ek rfl gI bIsi (pa_cons (pv 0) (pa_cons (pe_gref rfl (CL 11 (by decide))) pa_nil))) pa_nil))))) pa_nil))
    apply pss_cons
    · exact ps_expr (pe_bm PySem.F.plainAttrs_list PySem.F.slot_list_extend PySem.F.type_list_extend mt_extend (pv 1) (pa_cons (pe_lst (pa_cons (pe_callB call_ek rfl gI bIsi (pa_cons (pv 0) (pa_cons (pe_gref rfl (CL 12 (by decide))) pa_nil))) (pa_cons (pe_callB call_ek rfl gI bIsi (pa_cons (pv 0) (pa_cons (pe_gref rfl (CL 13 (by decide))) pa_nil))) (pa_cons (pe_callB call_ek rfl gI bIsi (pa_cons (pv 0) (pa_cons (pe_gref rfl (CL 14 (by decide))) pa_nil))) (pa_cons (pe_callB call_ek rfl gI bIsi (pa_cons (pv 0) (pa_cons (pe_gref rfl (CL 15 (by decide))) pa_nil))) pa_nil))))) pa_nil))
    apply pss_cons
    · exact ps_expr (pe_bm PySem.F.plainAttrs_list PySem.F.slot_list_extend PySem.F.type_list_extend mt_extend (pv 1) (pa_cons (pe_lst (pa_cons (pe_callB call_ek rfl gI bIsi (pa_cons (pv 0) (pa_cons (pe_gref rfl (CL 16 (by decide))) pa_nil))) (pa_cons (pe_callB call_ek rfl gI bIsi (pa_cons (pv 0) (pa_cons (pe_gref rfl (CL 17 (by decide))) pa_nil))) (pa_cons (pe_callB call_ek rfl gI bIsi (pa_cons (pv 0) (pa_cons (pe_gref rfl (CL 18 (by decide))) pa_nil))) pa_nil)))) pa_nil))
    apply pss_cons
    · exact ps_expr (pe_bm PySem.F.plainAttrs_list PySem.F.slot_list_extend PySem.F.type_list_extend mt_extend (pv 1) (pa_cons (pe_lst (pa_cons (pe_callB call_ek rfl gI bIsi (pa_cons (pv 0) (pa_cons (pe_gref rfl (CL 19 (by decide))) pa_nil))) (pa_cons (pe_callB call_ek rfl gI bIsi (pa_cons (pv 0) (pa_cons (pe_gref rfl (CL 20 (by decide))) pa_nil))) pa_nil))) pa_nil))
    apply pss_one
    exact ps_ret (pe_lc (own := [("k", 2)]) rfl scKi.nd (pi_range1 rfl gR (pa_cons pe_int pa_nil)) (blkOk_by (by show blkC nKi (defScope sKi) _ _ = true; decide +kernel)) (fun _ _ _ _ _ => pg_name (i := 2) scKi.nd rfl (Or.inl rfl)) (fun _ _ _ _ _ => pts_one (pt_val (pe_ix (r := rIxL K) ix_list (pv 1) (pv 2) (fun _ _ => rfl)))) (fun _ _ _ _ _ => pv 2))
  case right =>
    obtain ⟨a, C, b, rfl, hE, hX, hK, hQ⟩ := h
    refine ⟨_, rfl, a, C, _, _, b 0, rfl, .own _, hE.same (Same.refl _), hX, hK 0 (by decide), _, rfl, a, C, _, _, b 1, rfl, .own _, hE.same (Same.refl _), hX, hK 1 (by decide), _, rfl, a, C, _, _, b 2, rfl, .own _, hE.same (Same.refl _), hX, hK 2 (by decide), _, rfl, a, C, _, _, b 3, rfl, .own _, hE.same (Same.refl _), hX, hK 3 (by decide), by show 4 ≤ sizeLine; decide, fun p hp => ?_⟩
    have g0 := Gr.start (xs := [V.bl (b 0), V.bl (b 1), V.bl (b 2), V.bl (b 3)]) hp
    generalize upd H p (.lst [V.bl (b 0), V.bl (b 1), V.bl (b 2), V.bl (b 3)]) = H0 at g0 ⊢
    refine ⟨_, rfl, tyV_lst g0.2.2, _, rfl, a, C, _, _, b 4, rfl, .own _, hE.same g0.2.1, hX, hK 4 (by decide), _, rfl, a, C, _, _, b 5, rfl, .own _, hE.same g0.2.1, hX, hK 5 (by decide), _, rfl, a, C, _, _, b 6, rfl, .own _, hE.same g0.2.1, hX, hK 6 (by decide), _, rfl, a, C, _, _, b 7, rfl, .own _, hE.same g0.2.1, hX, hK 7 (by decide), by show 4 ≤ sizeLine; decide, fun q0 hq0 => ?_⟩
    refine ⟨p, q0, _, _, rfl, rfl, g0.at hq0, upd_same, by show 4 + 4 ≤ sizeLine; decide, ?_⟩
    have g1 := g0.more (zs := [V.bl (b 4), V.bl (b 5), V.bl (b 6), V.bl (b 7)]) hq0
    generalize upd (upd H0 q0 (.lst [V.bl (b 4), V.bl (b 5), V.bl (b 6), V.bl (b 7)])) p (.lst ([V.bl (b 0), V.bl (b 1), V.bl (b 2), V.bl (b 3)] ++ [V.bl (b 4), V.bl (b 5), V.bl (b 6), V.bl (b 7)])) = H1 at g1 ⊢
    have g1 : Gr H H1 p [V.bl (b 0), V.bl (b 1), V.bl (b 2), V.bl (b 3), V.bl (b 4), V.bl (b 5), V.bl (b 6), V.bl (b 7)] := g1
    refine ⟨_, rfl, tyV_lst g1.2.2, _, rfl, a, C, _, _, b 8, rfl, .own _, hE.same g1.2.1, hX, hK 8 (by decide), _, rfl, a, C, _, _, b 9, rfl, .own _, hE.same g1.2.1, hX, hK 9 (by decide), _, rfl, a, C, _, _, b 10, rfl, .own _, hE.same g1.2.1, hX, hK 10 (by decide), _, rfl, a, C, _, _, b 11, rfl, .own _, hE.same g1.2.1, hX, hK 11 (by decide), by show 4 ≤ sizeLine; decide, fun q1 hq1 => ?_⟩
    refine ⟨p, q1, _, _, rfl, rfl, g1.at hq1, upd_same, by show 8 + 4 ≤ sizeLine; decide, ?_⟩
    have g2 := g1.more (zs := [V.bl (b 8), V.bl (b 9), V.bl (b 10), V.bl (b 11)]) hq1
    generalize upd (upd H1 q1 (.lst [V.bl (b 8), V.bl (b 9), V.bl (b 10), V.bl (b 11)])) p (.lst ([V.bl (b 0), V.bl (b 1), V.bl (b 2), V.bl (b 3), V.bl (b 4), V.bl (b 5), V.bl (b 6), V.bl (b 7)] ++ [V.bl (b 8), V.bl (b 9), V.bl (b 10), V.bl (b 11)])) = H2 at g2 ⊢
    have g2 : Gr H H2 p [V.bl (b 0), V.bl (b 1), V.bl (b 2), V.bl (b 3), V.bl (b 4), V.bl (b 5), V.bl (b 6), V.bl (b 7), V.bl (b 8), V.bl (b 9), V.bl (b 10), V.bl (b 11)] := g2
    refine ⟨_, rfl, tyV_lst g2.2.2, _, rfl, a, C, _, _, b 12, rfl, .own _, hE.same g2.2.1, hX, hK 12 (by decide), _, rfl, a, C, _, _, b 13, rfl, .own _, hE.same g2.2.1, hX, hK 13 (by decide), _, rfl, a, C, _, _, b 14, rfl, .own _, hE.same g2.2.1, hX, hK 14 (by decide), _, rfl, a, C, _, _, b 15, rfl, .own _, hE.same g2.2.1, hX, hK 15 (by decide), by show 4 ≤ sizeLine; decide, fun q2 hq2 => ?_⟩
    refine ⟨p, q2, _, _, rfl, rfl, g2.at hq2, upd_same, by show 12 + 4 ≤ sizeLine; decide, ?_⟩
    have g3 := g2.more (zs := [V.bl (b 12), V.bl (b 13), V.bl (b 14), V.bl (b 15)]) hq2
    generalize upd (upd H2 q2 (.lst [V.bl (b 12), V.bl (b 13), V.bl (b 14), V.bl (b 15)])) p (.lst ([V.bl (b 0), V.bl (b 1), V.bl (b 2), V.bl (b 3), V.bl (b 4), V.bl (b 5), V.bl (b 6), V.bl (b 7), V.bl (b 8), V.bl (b 9), V.bl (b 10), V.bl (b 11)] ++ [V.bl (b 12), V.bl (b 13), V.bl (b 14), V.bl (b 15)])) = H3 at g3 ⊢
    have g3 : Gr H H3 p [V.bl (b 0), V.bl (b 1), V.bl (b 2), V.bl (b 3), V.bl (b 4), V.bl (b 5), V.bl (b 6), V.bl (b 7), V.bl (b 8), V.bl (b 9), V.bl (b 10), V.bl (b 11), V.bl (b 12), V.bl (b 13), V.bl (b 14), V.bl (b 15)] := g3
    refine ⟨_, rfl, tyV_lst g3.2.2, _, rfl, a, C, _, _, b 16, rfl, .own _, hE.same g3.2.1, hX, hK 16 (by decide), _, rfl, a, C, _, _, b 17, rfl, .own _, hE.same g3.2.1, hX, hK 17 (by decide), _, rfl, a, C, _, _, b 18, rfl, .own _, hE.same g3.2.1, hX, hK 18 (by decide), by show 3 ≤ sizeLine; decide, fun q3 hq3 => ?_⟩
    refine ⟨p, q3, _, _, rfl, rfl, g3.at hq3, upd_same, by show 16 + 3 ≤ sizeLine; decide, ?_⟩
    have g4 := g3.more (zs := [V.bl (b 16), V.bl (b 17), V.bl (b 18)]) hq3
    generalize upd (upd H3 q3 (.lst [V.bl (b 16), V.bl (b 17), V.bl (b 18)])) p (.lst ([V.bl (b 0), V.bl (b 1), V.bl (b 2), V.bl (b 3), V.bl (b 4), V.bl (b 5), V.bl (b 6), V.bl (b 7), V.bl (b 8), V.bl (b 9), V.bl (b 10), V.bl (b 11), V.bl (b 12), V.bl (b 13), V.bl (b 14), V.bl (b 15)] ++ [V.bl (b 16), V.bl (b 17), V.bl (b 18)])) = H4 at g4 ⊢
    have g4 : Gr H H4 p [V.bl (b 0), V.bl (b 1), V.bl (b 2), V.bl (b 3), V.bl (b 4), V.bl (b 5), V.bl (b 6), V.bl (b 7), V.bl (b 8), V.bl (b 9), V.bl (b 10), V.bl (b 11), V.bl (b 12), V.bl (b 13), V.bl (b 14), V.bl (b 15), V.bl (b 16), V.bl (b 17), V.bl (b 18)] := g4
    refine ⟨_, rfl, tyV_lst g4.2.2, _, rfl, a, C, _, _, b 19, rfl, .own _, hE.same g4.2.1, hX, hK 19 (by decide), _, rfl, a, C, _, _, b 20, rfl, .own _, hE.same g4.2.1, hX, hK 20 (by decide), by show 2 ≤ sizeLine; decide, fun q4 hq4 => ?_⟩
    refine ⟨p, q4, _, _, rfl, rfl, g4.at hq4, upd_same, by show 19 + 2 ≤ sizeLine; decide, ?_⟩
    have g5 := g4.more (zs := [V.bl (b 19), V.bl (b 20)]) hq4
    generalize upd (upd H4 q4 (.lst [V.bl (b 19), V.bl (b 20)])) p (.lst ([V.bl (b 0), V.bl (b 1), V.bl (b 2), V.bl (b 3), V.bl (b 4), V.bl (b 5), V.bl (b 6), V.bl (b 7), V.bl (b 8), V.bl (b 9), V.bl (b 10), V.bl (b 11), V.bl (b 12), V.bl (b 13), V.bl (b 14), V.bl (b 15), V.bl (b 16), V.bl (b 17), V.bl (b 18)] ++ [V.bl (b 19), V.bl (b 20)])) = H5 at g5 ⊢
    have g5 : Gr H H5 p [V.bl (b 0), V.bl (b 1), V.bl (b 2), V.bl (b 3), V.bl (b 4), V.bl (b 5), V.bl (b 6), V.bl (b 7), V.bl (b 8), V.bl (b 9), V.bl (b 10), V.bl (b 11), V.bl (b 12), V.bl (b 13), V.bl (b 14), V.bl (b 15), V.bl (b 16), V.bl (b 17), V.bl (b 18), V.bl (b 19), V.bl (b 20)] := g5
    have gT : Gr H H5 p (toldL b) := g5
    refine ⟨21, rfl, by decide, by decide, fun D hD => ?_⟩
    have eL : H5 p = some (.lst (toldL b)) := gT.2.2
    have npD : p ≠ D := ne_of_none eL hD
    refine lc_range (fun i H' => i ≤ 21 ∧ Same H5 H' ∧ H' D = some (.lst ((ksOf b i).map V.int))) ⟨Nat.zero_le _, same_new hD, upd_same⟩ (fun i H' hi hp' => ?_) fun H' hp' => ?_
    · obtain ⟨_, hs, hd⟩ := hp'
      refine ⟨rfl, _, rfl, _, rfl, p, _, _, _, rfl, rfl, SqL.of (hs _ _ eL), (by rw [Int.zero_add]; exact atI_nat (told_at b i hi)), b i, rfl, ?_⟩
      have nx : ∀ {H'' : Hp}, Same H5 H'' → H'' D = some (.lst ((ksOf b (i + 1)).map V.int)) → i + 1 ≤ 21 ∧ Same H5 H'' ∧ H'' D = some (.lst ((ksOf b (i + 1)).map V.int)) := fun x y => ⟨hi, x, y⟩
      by_cases z : b i = true
      · refine ite_t z ?_
        refine ⟨_, rfl, (ksOf b i).map V.int, hd, ?_, nx (fun a o e => ?_) ?_⟩
        · rw [List.length_map]
          have := ksOf_len b i
          exact Nat.lt_of_le_of_lt this (Nat.lt_of_lt_of_le hi (by decide))
        · rw [upd_ne (ne_of_none e hD)]
          exact hs a o e
        · rw [upd_same]
          rw [ksOf_succ, if_pos z, List.map_append, Int.zero_add]
          rfl
      · refine ite_f z ?_
        refine nx hs ?_
        rw [hd, ksOf_succ, if_neg z]
    · obtain ⟨_, hs, hd⟩ := hp'
      refine hQ D _ (gT.2.1.trans hs) (gT.2.1.free hD) hd

theorem ok_kiP {f : Addr} {fd : FuncData} (F : Fun K "_law_kinds" "_law_kinds" sKi f fd) (gI : mg "isinstance" = none) (gR : mg "range" = none) (CL : ∀ i, i < 21 → mg (nm i) = some (.ref (cA K i))) : FnP P w K mg base CX0 1 f fd ["e"] (spKiP K) := by
  obtain ⟨oc, od, kV, doc, pm, an, cdv, ct, osl, rfl, lk, hcd⟩ := F.ex
  refine fnP_of lk hcd scKi (fun q vs H Q E h => ?_) (fun A outer s H vs Q E q hot hr h => ?_)
  · obtain ⟨C, dd, b, rfl, _⟩ := h
    rfl
  obtain ⟨C, dd, b, rfl, hE, hz, hf, hX, hK, hQ⟩ := h
  apply Exists.intro
  apply And.intro
  case left =>
    apply pss_cons
    · exact ps_asg (pe_lst (pa_cons (pe_callB (call_ekP (p := q) List.mem_cons_self hX hz hf) rfl gI bIsi (pa_cons (pv 0) (pa_cons (pe_gref rfl (CL 0 (by decide))) pa_nil))) (pa_cons (pe_callB (call_ekP (p := q) List.mem_cons_self hX hz hf) rfl gI bIsi (pa_cons (pv 0) (pa_cons (pe_gref rfl (CL 1 (by decide))) pa_nil))) (pa_cons (pe_callB (call_ekP (p := q) List.mem_cons_self hX hz hf) rfl gI bIsi (pa_cons (pv 0) (pa_cons (pe_gref rfl (CL 2 (by decide))) pa_nil))) (pa_cons (pe_callB (call_ekP (p := q) List.mem_cons_self hX hz hf) rfl gI bIsi (pa_cons (pv 0) (pa_cons (pe_gref rfl (CL 3 (by decide))) pa_nil))) pa_nil))))) (pg_name (i := 1) scKi.nd rfl (Or.inr rfl))
    apply pss_cons
    · exact ps_expr (pe_bm PySem.F.plainAttrs_list PySem.F.slot_list_extend PySem.F.type_list_extend mt_extend (pv 1) (pa_cons (pe_lst (pa_cons (pe_callB (call_ekP (p := q) List.mem_cons_self hX hz hf) rfl gI bIsi (pa_cons (pv 0) (pa_cons (pe_gref rfl (CL 4 (by decide))) pa_nil))) (pa_cons (pe_callB (call_ekP (p := q) List.mem_cons_self hX hz hf) rfl gI bIsi (pa_cons (pv 0) (pa_cons (pe_gref rfl (CL 5 (by decide))) pa_nil))) (pa_cons (pe_callB (call_ekP (p := q) List.mem_cons_self hX hz hf) rfl gI bIsi (pa_cons (pv 0) (pa_cons (pe_gref rfl (CL 6 (by decide))) pa_nil))) (pa_cons (pe_callB (call_ekP (p := q) List.mem_cons_self hX hz hf) rfl gI bIsi (pa_cons (pv 0) (pa_cons (pe_gref rfl (CL 7 (by decide))) pa_nil))) pa_nil))))) pa_nil))
    apply pss_cons
    · exact ps_expr (pe_bm PySem.F.plainAttrs_list PySem.F.slot_list_extend PySem.F.type_list_extend mt_extend (pv 1) (pa_cons (pe_lst (pa_cons (pe_callB (call_ekP (p := q) List.mem_cons_self hX hz hf) rfl gI bIsi (pa_cons (pv 0) (pa_cons (pe_gref rfl (CL 8 (by decide))) pa_nil))) (pa_cons (pe_callB (call_ekP (p := q) List.mem_cons_self hX hz hf) rfl gI bIsi (pa_cons (pv 0) (pa_cons (pe_gref rfl (CL 9 (by decide))) pa_nil))) (pa_cons (pe_callB (call_ekP (p := q) List.mem_cons_self hX hz hf) rfl gI bIsi (pa_cons (pv 0) (pa_cons (pe_gref rfl (CL 10 (by decide))) pa_nil))) (pa_cons (pe_callB (call_ekP (p := q) List.mem_cons_self hX hz hf) rfl gI bIsi (pa_cons (pv 0) (pa_cons (pe_gref rfl (CL 11 (by decide))) pa_nil))) pa_nil))))) pa_nil))
    apply pss_cons
    · exact ps_expr (pe_bm PySem.F.plainAttrs_list PySem.F.slot_list_extend PySem.F.type_list_extend mt_extend (pv 1) (pa_cons (pe_lst (pa_cons (pe_callB (call_ekP (p := q) List.mem_cons_self hX hz hf) rfl gI bIsi (pa_cons (pv 0) (pa_cons (pe_gref rfl (CL 12 (by decide))) pa_nil))) (pa_cons (pe_callB (call_ekP (p := q) List.mem_cons_self hX hz hf) rfl gI bIsi (pa_cons (pv 0) (pa_cons (pe_gref rfl (CL 13 (by decide))) pa_nil))) (pa_cons (pe_callB (call_ekP (p := q) List.mem_cons_self hX hz hf) rfl gI bIsi (pa_cons (pv 0) (pa_cons (pe_gref rfl (CL 14 (by decide))) pa_nil))) (pa_cons (pe_callB (call_ekP (p := q) List.mem_cons_self hX hz hf) rfl gI bIsi (pa_cons (pv 0) (pa_cons (pe_gref rfl (CL 15 (by decide))) pa_nil))) pa_nil))))) pa_nil))
    apply pss_cons
    · exact ps_expr (pe_bm PySem.F.plainAttrs_list PySem.F.slot_list_extend PySem.F.type_list_extend mt_extend (pv 1) (pa_cons (pe_lst (pa_cons (pe_callB (call_ekP (p := q) List.mem_cons_self hX hz hf) rfl gI bIsi (pa_cons (pv 0) (pa_cons (pe_gref rfl (CL 16 (by decide))) pa_nil))) (pa_cons (pe_callB (call_ekP (p := q) List.mem_cons_self hX hz hf) rfl gI bIsi (pa_cons (pv 0) (pa_cons (pe_gref rfl (CL 17 (by decide))) pa_nil))) (pa_cons (pe_callB (call_ekP (p := q) List.mem_cons_self hX hz hf) rfl gI bIsi (pa_cons (pv 0) (pa_cons (pe_gref rfl (CL 18 (by decide))) pa_nil))) pa_nil)))) pa_nil))
    apply pss_cons
    · exact ps_expr (pe_bm PySem.F.plainAttrs_list PySem.F.slot_list_extend PySem.F.type_list_extend mt_extend (pv 1) (pa_cons (pe_lst (pa_cons (pe_callB (call_ekP (p := q) List.mem_cons_self hX hz hf) rfl gI bIsi (pa_cons (pv 0) (pa_cons (pe_gref rfl (CL 19 (by decide))) pa_nil))) (pa_cons (pe_callB (call_ekP (p := q) List.mem_cons_self hX hz hf) rfl gI bIsi (pa_cons (pv 0) (pa_cons (pe_gref rfl (CL 20 (by decide))) pa_nil))) pa_nil))) pa_nil))
    apply pss_one
    exact ps_ret (pe_lcH (own := [("k", 2)]) ⟨q, hot, List.mem_cons_self⟩ scKi.nd (L2H.pi_range1H rfl gR (pa_cons pe_int pa_nil)) (blkOk_by (by show blkC nKi (defScope sKi) _ _ = true; decide +kernel)) (fun _ _ _ _ _ => pg_name (i := 2) scKi.nd rfl (Or.inl rfl)) (fun _ _ _ _ _ => pts_one (pt_val (pe_ix (r := rIxL K) ix_list (pv 1) (pv 2) (fun _ _ => rfl)))) (fun _ _ _ _ _ => pv 2))
  case right =>
    refine ⟨_, rfl, _, _, b 0, rfl, .own _, hE.elim (fun o ho => ⟨o, (Same.refl _) _ _ ho⟩), hK 0 (by decide), _, rfl, _, _, b 1, rfl, .own _, hE.elim (fun o ho => ⟨o, (Same.refl _) _ _ ho⟩), hK 1 (by decide), _, rfl, _, _, b 2, rfl, .own _, hE.elim (fun o ho => ⟨o, (Same.refl _) _ _ ho⟩), hK 2 (by decide), _, rfl, _, _, b 3, rfl, .own _, hE.elim (fun o ho => ⟨o, (Same.refl _) _ _ ho⟩), hK 3 (by decide), by show 4 ≤ sizeLine; decide, fun p hp => ?_⟩
    have g0 := Gr.start (xs := [V.bl (b 0), V.bl (b 1), V.bl (b 2), V.bl (b 3)]) hp
    generalize upd H p (.lst [V.bl (b 0), V.bl (b 1), V.bl (b 2), V.bl (b 3)]) = H0 at g0 ⊢
    refine ⟨_, rfl, tyV_lst g0.2.2, _, rfl, _, _, b 4, rfl, .own _, hE.elim (fun o ho => ⟨o, g0.2.1 _ _ ho⟩), hK 4 (by decide), _, rfl, _, _, b 5, rfl, .own _, hE.elim (fun o ho => ⟨o, g0.2.1 _ _ ho⟩), hK 5 (by decide), _, rfl, _, _, b 6, rfl, .own _, hE.elim (fun o ho => ⟨o, g0.2.1 _ _ ho⟩), hK 6 (by decide), _, rfl, _, _, b 7, rfl, .own _, hE.elim (fun o ho => ⟨o, g0.2.1 _ _ ho⟩), hK 7 (by decide), by show 4 ≤ sizeLine; decide, fun q0 hq0 => ?_⟩
    refine ⟨p, q0, _, _, rfl, rfl, g0.at hq0, upd_same, by show 4 + 4 ≤ sizeLine; decide, ?_⟩
    have g1 := g0.more (zs := [V.bl (b 4), V.bl (b 5), V.bl (b 6), V.bl (b 7)]) hq0
    generalize upd (upd H0 q0 (.lst [V.bl (b 4), V.bl (b 5), V.bl (b 6), V.bl (b 7)])) p (.lst ([V.bl (b 0), V.bl (b 1), V.bl (b 2), V.bl (b 3)] ++ [V.bl (b 4), V.bl (b 5), V.bl (b 6), V.bl (b 7)])) = H1 at g1 ⊢
    have g1 : Gr H H1 p [V.bl (b 0), V.bl (b 1), V.bl (b 2), V.bl (b 3), V.bl (b 4), V.bl (b 5), V.bl (b 6), V.bl (b 7)] := g1
    refine ⟨_, rfl, tyV_lst g1.2.2, _, rfl, _, _, b 8, rfl, .own _, hE.elim (fun o ho => ⟨o, g1.2.1 _ _ ho⟩), hK 8 (by decide), _, rfl, _, _, b 9, rfl, .own _, hE.elim (fun o ho => ⟨o, g1.2.1 _ _ ho⟩), hK 9 (by decide), _, rfl, _, _, b 10, rfl, .own _, hE.elim (fun o ho => ⟨o, g1.2.1 _ _ ho⟩), hK 10 (by decide), _, rfl, _, _, b 11, rfl, .own _, hE.elim (fun o ho => ⟨o, g1.2.1 _ _ ho⟩), hK 11 (by decide), by show 4 ≤ sizeLine; decide, fun q1 hq1 => ?_⟩
    refine ⟨p, q1, _, _, rfl, rfl, g1.at hq1, upd_same, by show 8 + 4 ≤ sizeLine; decide, ?_⟩
    have g2 := g1.more (zs := [V.bl (b 8), V.bl (b 9), V.bl (b 10), V.bl (b 11)]) hq1
    generalize upd (upd H1 q1 (.lst [V.bl (b 8), V.bl (b 9), V.bl (b 10), V.bl (b 11)])) p (.lst ([V.bl (b 0), V.bl (b 1), V.bl (b 2), V.bl (b 3), V.bl (b 4), V.bl (b 5), V.bl (b 6), V.bl (b 7)] ++ [V.bl (b 8), V.bl (b 9), V.bl (b 10), V.bl (b 11)])) = H2 at g2 ⊢
    have g2 : Gr H H2 p [V.bl (b 0), V.bl (b 1), V.bl (b 2), V.bl (b 3), V.bl (b 4), V.bl (b 5), V.bl (b 6), V.bl (b 7), V.bl (b 8), V.bl (b 9), V.bl (b 10), V.bl (b 11)] := g2
    refine ⟨_, rfl, tyV_lst g2.2.2, _, rfl, _, _, b 12, rfl, .own _, hE.elim (fun o ho => ⟨o, g2.2.1 _ _ ho⟩), hK 12 (by decide), _, rfl, _, _, b 13, rfl, .own _, hE.elim (fun o ho => ⟨o, g2.2.1 _ _ ho⟩), hK 13 (by decide), _, rfl, _, _, b 14, rfl, .own _, hE.elim (fun o ho => ⟨o, g2.2.1 _ _ ho⟩), hK 14 (by decide), _, rfl, _, _, b 15, rfl, .own _, hE.elim (fun o ho => ⟨o, g2.2.1 _ _ ho⟩), hK 15 (by decide), by show 4 ≤ sizeLine; decide, fun q2 hq2 => ?_⟩
    refine ⟨p, q2, _, _, rfl, rfl, g2.at hq2, upd_same, by show 12 + 4 ≤ sizeLine; decide, ?_⟩
    have g3 := g2.more (zs := [V.bl (b 12), V.bl (b 13), V.bl (b 14), V.bl (b 15)]) hq2
    generalize upd (upd H2 q2 (.lst [V.bl (b 12), V.bl (b 13), V.bl (b 14), V.bl (b 15)])) p (.lst ([V.bl (b 0), V.bl (b 1), V.bl (b 2), V.bl (b 3), V.bl (b 4), V.bl (b 5), V.bl (b 6), V.bl (b 7), V.bl (b 8), V.bl (b 9), V.bl (b 10), V.bl (b 11)] ++ [V.bl (b 12), V.bl (b 13), V.bl (b 14), V.bl (b 15)])) = H3 at g3 ⊢
    have g3 : Gr H H3 p [V.bl (b 0), V.bl (b 1), V.bl (b 2), V.bl (b 3), V.bl (b 4), V.bl (b 5), V.bl (b 6), V.bl (b 7), V.bl (b 8), V.bl (b 9), V.bl (b 10), V.bl (b 11), V.bl (b 12), V.bl (b 13), V.bl (b 14), V.bl (b 15)] := g3
    refine ⟨_, rfl, tyV_lst g3.2.2, _, rfl, _, _, b 16, rfl, .own _, hE.elim (fun o ho => ⟨o, g3.2.1 _ _ ho⟩), hK 16 (by decide), _, rfl, _, _, b 17, rfl, .own _, hE.elim (fun o ho => ⟨o, g3.2.1 _ _ ho⟩), hK 17 (by decide), _, rfl, _, _, b 18, rfl, .own _, hE.elim (fun o ho => ⟨o, g3.2.1 _ _ ho⟩), hK 18 (by decide), by show 3 ≤ sizeLine; decide, fun q3 hq3 => ?_⟩
    refine ⟨p, q3, _, _, rfl, rfl, g3.at hq3, upd_same, by show 16 + 3 ≤ sizeLine; decide, ?_⟩
    have g4 := g3.more (zs := [V.bl (b 16), V.bl (b 17), V.bl (b 18)]) hq3
    generalize upd (upd H3 q3 (.lst [V.bl (b 16), V.bl (b 17), V.bl (b 18)])) p (.lst ([V.bl (b 0), V.bl (b 1), V.bl (b 2), V.bl (b 3), V.bl (b 4), V.bl (b 5), V.bl (b 6), V.bl (b 7), V.bl (b 8), V.bl (b 9), V.bl (b 10), V.bl (b 11), V.bl (b 12), V.bl (b 13), V.bl (b 14), V.bl (b 15)] ++ [V.bl (b 16), V.bl (b 17), V.bl (b 18)])) = H4 at g4 ⊢
    have g4 : Gr H H4 p [V.bl (b 0), V.bl (b 1), V.bl (b 2), V.bl (b 3), V.bl (b 4), V.bl (b 5), V.bl (b 6), V.bl (b 7), V.bl (b 8), V.bl (b 9), V.bl (b 10), V.bl (b 11), V.bl (b 12), V.bl (b 13), V.bl (b 14), V.bl (b 15), V.bl (b 16), V.bl (b 17), V.bl (b 18)] := g4
    refine ⟨_, rfl, tyV_lst g4.2.2, _, rfl, _, _, b 19, rfl, .own _, hE.elim (fun o ho => ⟨o, g4.2.1 _ _ ho⟩), hK 19 (by decide), _, rfl, _, _, b 20, rfl, .own _, hE.elim (fun o ho => ⟨o, g4.2.1 _ _ ho⟩), hK 20 (by decide), by show 2 ≤ sizeLine; decide, fun q4 hq4 => ?_⟩
    refine ⟨p, q4, _, _, rfl, rfl, g4.at hq4, upd_same, by show 19 + 2 ≤ sizeLine; decide, ?_⟩
    have g5 := g4.more (zs := [V.bl (b 19), V.bl (b 20)]) hq4
    generalize upd (upd H4 q4 (.lst [V.bl (b 19), V.bl (b 20)])) p (.lst ([V.bl (b 0), V.bl (b 1), V.bl (b 2), V.bl (b 3), V.bl (b 4), V.bl (b 5), V.bl (b 6), V.bl (b 7), V.bl (b 8), V.bl (b 9), V.bl (b 10), V.bl (b 11), V.bl (b 12), V.bl (b 13), V.bl (b 14), V.bl (b 15), V.bl (b 16), V.bl (b 17), V.bl (b 18)] ++ [V.bl (b 19), V.bl (b 20)])) = H5 at g5 ⊢
    have g5 : Gr H H5 p [V.bl (b 0), V.bl (b 1), V.bl (b 2), V.bl (b 3), V.bl (b 4), V.bl (b 5), V.bl (b 6), V.bl (b 7), V.bl (b 8), V.bl (b 9), V.bl (b 10), V.bl (b 11), V.bl (b 12), V.bl (b 13), V.bl (b 14), V.bl (b 15), V.bl (b 16), V.bl (b 17), V.bl (b 18), V.bl (b 19), V.bl (b 20)] := g5
    have gT : Gr H H5 p (toldL b) := g5
    refine ⟨21, rfl, by decide, by decide, fun D hD => ?_⟩
    have eL : H5 p = some (.lst (toldL b)) := gT.2.2
    have npD : p ≠ D := ne_of_none eL hD
    refine lc_range (fun i H' => i ≤ 21 ∧ Same H5 H' ∧ H' D = some (.lst ((ksOf b i).map V.int))) ⟨Nat.zero_le _, same_new hD, upd_same⟩ (fun i H' hi hp' => ?_) fun H' hp' => ?_
    · obtain ⟨_, hs, hd⟩ := hp'
      refine ⟨rfl, _, rfl, _, rfl, p, _, _, _, rfl, rfl, SqL.of (hs _ _ eL), (by rw [Int.zero_add]; exact atI_nat (told_at b i hi)), b i, rfl, ?_⟩
      have nx : ∀ {H'' : Hp}, Same H5 H'' → H'' D = some (.lst ((ksOf b (i + 1)).map V.int)) → i + 1 ≤ 21 ∧ Same H5 H'' ∧ H'' D = some (.lst ((ksOf b (i + 1)).map V.int)) := fun x y => ⟨hi, x, y⟩
      by_cases z : b i = true
      · refine ite_t z ?_
        refine ⟨_, rfl, (ksOf b i).map V.int, hd, ?_, nx (fun a o e => ?_) ?_⟩
        · rw [List.length_map]
          have := ksOf_len b i
          exact Nat.lt_of_le_of_lt this (Nat.lt_of_lt_of_le hi (by decide))
        · rw [upd_ne (ne_of_none e hD)]
          exact hs a o e
        · rw [upd_same]
          rw [ksOf_succ, if_pos z, List.map_append, Int.zero_add]
          rfl
      · refine ite_f z ?_
        refine nx hs ?_
        rw [hd, ksOf_succ, if_neg z]
    · obtain ⟨_, hs, hd⟩ := hp'
      refine hQ D _ (gT.2.1.trans hs) (gT.2.1.free hD) hd
end
end L2.E9

set_option Elab.async false
set_option linter.all false
set_option maxRecDepth 100000
set_option maxHeartbeats 4000000
/-! k89, part h: each error made, what it keeps. -/
namespace L2.E9
open PySem PySem.Spec L2
open PyProof.Rows (envOfC)
/-- the error of the place i and what it keeps -/
def spMd (K : PySem.W.Frag) (lo hi : Int) : Sp := fun vs H Q _ => ∃ (i : Int) (x : V), vs = [.int i, x] ∧ lo ≤ i ∧ i < hi ∧ ∀ (p e : Addr) (H' : Hp), Same H H' → H p = none → H' p = some (.tup [.ref e, x]) → ErAt H' e (cA K i.toNat) (fl i.toNat) x → Q (.ref p) H'
abbrev sFm : Stmt := top 28
abbrev sMd : Stmt := top 29
abbrev nMd : List Str := ["at", "x", "made"]
theorem scFm : FnScope nMd ["at", "x"] (defScope sFm) := ⟨rfl, rfl, rfl, by decide +kernel, rfl, by decide +kernel, by decide +kernel⟩
theorem scMd : FnScope nMd ["at", "x"] (defScope sMd) := ⟨rfl, rfl, rfl, by decide +kernel, rfl, by decide +kernel, by decide +kernel⟩
section
variable {P : Program} {w : World} {K : PySem.W.Frag} {mg : Str → Option Value} {base : Heap}

theorem ok_fm {f : Addr} {fd : FuncData} (F : Fun K "_law_first_made" "_law_first_made" sFm f fd) (EH : ∀ i, i < 21 → ErH P w K mg base i) : FnOk P w K mg base CX0 3 f fd ["at", "x"] (spMd K 0 11) := by
  refine F.ok scFm (fun vs H Q E h => ?_) (fun cdv A outer s H vs Q E hr h => ?_)
  · obtain ⟨i, x, rfl, _⟩ := h
    rfl
  have hr2 : Room 2 _ := hr.mono (by decide)
  apply Exists.intro
  apply And.intro
  case left =>
    exact (pss_cons (ps_if (pt_cmpR op_lt (pv 0) pe_int (nob _)) (pss_cons (ps_set (i := 2) scFm.nd rfl (Or.inl rfl) (pe_ix ix_list (pe_lst (pa_cons (pe_er (i := 0) (EH 0 (by decide)) hr2 rfl (pv 1)) (pa_cons (pe_er (i := 1) (EH 1 (by decide)) hr2 rfl (pv 1)) (pa_cons (pe_er (i := 2) (EH 2 (by decide)) hr2 rfl (pv 1)) (pa_cons (pe_er (i := 3) (EH 3 (by decide)) hr2 rfl (pv 1)) pa_nil))))) (pv 0) (fun _ _ => rfl))) (pss_one (ps_ret (pe_tup (pa_cons (pv 2) (pa_cons (pe_ifExp (pt_cmpR op_eq (pv 0) pe_int (nob _)) (pe_erf (pv 2)) (pe_ifExp (pt_cmpR op_eq (pv 0) pe_int (nob _)) (pe_erf (pv 2)) (pe_erf (pv 2)))) pa_nil)))))) pss_nil) (pss_cons (ps_if (pt_cmpR op_lt (pv 0) pe_int (nob _)) (pss_cons (ps_set (i := 2) scFm.nd rfl (Or.inl rfl) (pe_ix ix_list (pe_lst (pa_cons (pe_er (i := 4) (EH 4 (by decide)) hr2 rfl (pv 1)) (pa_cons (pe_erk (i := 5) (EH 5 (by decide)) hr2 rfl (pv 1)) (pa_cons (pe_er (i := 6) (EH 6 (by decide)) hr2 rfl (pv 1)) (pa_cons (pe_er (i := 7) (EH 7 (by decide)) hr2 rfl (pv 1)) pa_nil))))) (pe_op op_sub (pv 0) pe_int) (fun _ _ => rfl))) (pss_cons (ps_if (pt_cmpR op_lt (pv 0) pe_int (nob _)) (pss_one (ps_ret (pe_tup (pa_cons (pv 2) (pa_cons (pe_ifExp (pt_cmpR op_eq (pv 0) pe_int (nob _)) (pe_erf (pv 2)) (pe_erf (pv 2))) pa_nil))))) pss_nil) (pss_one (ps_ret (pe_tup (pa_cons (pv 2) (pa_cons (pe_ifExp (pt_cmpR op_eq (pv 0) pe_int (nob _)) (pe_erf (pv 2)) (pe_erf (pv 2))) pa_nil))))))) pss_nil) (pss_cons (ps_set (i := 2) scFm.nd rfl (Or.inl rfl) (pe_ix ix_list (pe_lst (pa_cons (pe_erk (i := 8) (EH 8 (by decide)) hr2 rfl (pv 1)) (pa_cons (pe_er (i := 9) (EH 9 (by decide)) hr2 rfl (pv 1)) (pa_cons (pe_er (i := 10) (EH 10 (by decide)) hr2 rfl (pv 1)) pa_nil)))) (pe_op op_sub (pv 0) pe_int) (fun _ _ => rfl))) (pss_one (ps_ret (pe_tup (pa_cons (pv 2) (pa_cons (pe_ifExp (pt_cmpR op_eq (pv 0) pe_int (nob _)) (pe_erf (pv 2)) (pe_ifExp (pt_cmpR op_eq (pv 0) pe_int (nob _)) (pe_erf (pv 2)) (pe_erf (pv 2)))) pa_nil))))))))
  case right =>
    obtain ⟨i, x, rfl, i0, i1, hQ⟩ := h
    have hc : i = 0 ∨ i = 1 ∨ i = 2 ∨ i = 3 ∨ i = 4 ∨ i = 5 ∨ i = 6 ∨ i = 7 ∨ i = 8 ∨ i = 9 ∨ i = 10 := by omega
    rcases hc with rfl | rfl | rfl | rfl | rfl | rfl | rfl | rfl | rfl | rfl | rfl
    · refine ⟨_, rfl, _, _, rfl, rfl, _, rfl, ite_t (by decide) ?_⟩
      refine ⟨_, rfl, fun e0 H0 n0 E0 s0 => ?_⟩
      refine ⟨_, rfl, fun e1 H1 n1 E1 s1 => ?_⟩
      refine ⟨_, rfl, fun e2 H2 n2 E2 s2 => ?_⟩
      refine ⟨_, rfl, fun e3 H3 n3 E3 s3 => ?_⟩
      refine ⟨by show 4 ≤ sizeLine; decide, fun p hp => ?_⟩
      refine ⟨_, rfl, p, _, _, _, rfl, rfl, SqL.of upd_same, rfl, ?_⟩
      have EE : ErAt (upd H3 p (.lst [V.ref e0, V.ref e1, V.ref e2, V.ref e3])) e0 (cA K 0) (fl 0) x := E0.same (s1.trans (s2.trans (s3.trans (same_new (o := .lst [V.ref e0, V.ref e1, V.ref e2, V.ref e3]) hp))))
      have SS := Same.trans (Same.refl H) (s0.trans (s1.trans (s2.trans (s3.trans (same_new (o := .lst [V.ref e0, V.ref e1, V.ref e2, V.ref e3]) hp)))))
      generalize upd H3 p (.lst [V.ref e0, V.ref e1, V.ref e2, V.ref e3]) = HH at EE SS ⊢
      exact ⟨_, rfl, _, rfl, rfl, _, rfl, ite_t (by decide) ⟨_, rfl, e0, _, _, rfl, (EH 0 (by decide)).xf, (EH 0 (by decide)).T.hno, EE, by show 2 ≤ sizeLine; decide, fun t ht => hQ t e0 _ (SS.trans (same_new ht)) (SS.free ht) upd_same (EE.same (same_new ht))⟩⟩
    · refine ⟨_, rfl, _, _, rfl, rfl, _, rfl, ite_t (by decide) ?_⟩
      refine ⟨_, rfl, fun e0 H0 n0 E0 s0 => ?_⟩
      refine ⟨_, rfl, fun e1 H1 n1 E1 s1 => ?_⟩
      refine ⟨_, rfl, fun e2 H2 n2 E2 s2 => ?_⟩
      refine ⟨_, rfl, fun e3 H3 n3 E3 s3 => ?_⟩
      refine ⟨by show 4 ≤ sizeLine; decide, fun p hp => ?_⟩
      refine ⟨_, rfl, p, _, _, _, rfl, rfl, SqL.of upd_same, rfl, ?_⟩
      have EE : ErAt (upd H3 p (.lst [V.ref e0, V.ref e1, V.ref e2, V.ref e3])) e1 (cA K 1) (fl 1) x := E1.same (s2.trans (s3.trans (same_new (o := .lst [V.ref e0, V.ref e1, V.ref e2, V.ref e3]) hp)))
      have SS := Same.trans (Same.refl H) (s0.trans (s1.trans (s2.trans (s3.trans (same_new (o := .lst [V.ref e0, V.ref e1, V.ref e2, V.ref e3]) hp)))))
      generalize upd H3 p (.lst [V.ref e0, V.ref e1, V.ref e2, V.ref e3]) = HH at EE SS ⊢
      exact ⟨_, rfl, _, rfl, rfl, _, rfl, ite_f (by decide) ⟨_, rfl, rfl, _, rfl, ite_t (by decide) ⟨_, rfl, e1, _, _, rfl, (EH 1 (by decide)).xf, (EH 1 (by decide)).T.hno, EE, by show 2 ≤ sizeLine; decide, fun t ht => hQ t e1 _ (SS.trans (same_new ht)) (SS.free ht) upd_same (EE.same (same_new ht))⟩⟩⟩
    · refine ⟨_, rfl, _, _, rfl, rfl, _, rfl, ite_t (by decide) ?_⟩
      refine ⟨_, rfl, fun e0 H0 n0 E0 s0 => ?_⟩
      refine ⟨_, rfl, fun e1 H1 n1 E1 s1 => ?_⟩
      refine ⟨_, rfl, fun e2 H2 n2 E2 s2 => ?_⟩
      refine ⟨_, rfl, fun e3 H3 n3 E3 s3 => ?_⟩
      refine ⟨by show 4 ≤ sizeLine; decide, fun p hp => ?_⟩
      refine ⟨_, rfl, p, _, _, _, rfl, rfl, SqL.of upd_same, rfl, ?_⟩
      have EE : ErAt (upd H3 p (.lst [V.ref e0, V.ref e1, V.ref e2, V.ref e3])) e2 (cA K 2) (fl 2) x := E2.same (s3.trans (same_new (o := .lst [V.ref e0, V.ref e1, V.ref e2, V.ref e3]) hp))
      have SS := Same.trans (Same.refl H) (s0.trans (s1.trans (s2.trans (s3.trans (same_new (o := .lst [V.ref e0, V.ref e1, V.ref e2, V.ref e3]) hp)))))
      generalize upd H3 p (.lst [V.ref e0, V.ref e1, V.ref e2, V.ref e3]) = HH at EE SS ⊢
      exact ⟨_, rfl, _, rfl, rfl, _, rfl, ite_f (by decide) ⟨_, rfl, rfl, _, rfl, ite_f (by decide) ⟨_, rfl, e2, _, _, rfl, (EH 2 (by decide)).xf, (EH 2 (by decide)).T.hno, EE, by show 2 ≤ sizeLine; decide, fun t ht => hQ t e2 _ (SS.trans (same_new ht)) (SS.free ht) upd_same (EE.same (same_new ht))⟩⟩⟩
    · refine ⟨_, rfl, _, _, rfl, rfl, _, rfl, ite_t (by decide) ?_⟩
      refine ⟨_, rfl, fun e0 H0 n0 E0 s0 => ?_⟩
      refine ⟨_, rfl, fun e1 H1 n1 E1 s1 => ?_⟩
      refine ⟨_, rfl, fun e2 H2 n2 E2 s2 => ?_⟩
      refine ⟨_, rfl, fun e3 H3 n3 E3 s3 => ?_⟩
      refine ⟨by show 4 ≤ sizeLine; decide, fun p hp => ?_⟩
      refine ⟨_, rfl, p, _, _, _, rfl, rfl, SqL.of upd_same, rfl, ?_⟩
      have EE : ErAt (upd H3 p (.lst [V.ref e0, V.ref e1, V.ref e2, V.ref e3])) e3 (cA K 3) (fl 3) x := E3.same (same_new (o := .lst [V.ref e0, V.ref e1, V.ref e2, V.ref e3]) hp)
      have SS := Same.trans (Same.refl H) (s0.trans (s1.trans (s2.trans (s3.trans (same_new (o := .lst [V.ref e0, V.ref e1, V.ref e2, V.ref e3]) hp)))))
      generalize upd H3 p (.lst [V.ref e0, V.ref e1, V.ref e2, V.ref e3]) = HH at EE SS ⊢
      exact ⟨_, rfl, _, rfl, rfl, _, rfl, ite_f (by decide) ⟨_, rfl, rfl, _, rfl, ite_f (by decide) ⟨_, rfl, e3, _, _, rfl, (EH 3 (by decide)).xf, (EH 3 (by decide)).T.hno, EE, by show 2 ≤ sizeLine; decide, fun t ht => hQ t e3 _ (SS.trans (same_new ht)) (SS.free ht) upd_same (EE.same (same_new ht))⟩⟩⟩
    · refine ⟨_, rfl, _, _, rfl, rfl, _, rfl, ite_f (by decide) ?_⟩
      refine ⟨_, rfl, _, _, rfl, rfl, _, rfl, ite_t (by decide) ?_⟩
      refine ⟨_, rfl, fun e0 H0 n0 E0 s0 => ?_⟩
      refine ⟨_, rfl, fun e1 H1 n1 E1 s1 => ?_⟩
      refine ⟨_, rfl, fun e2 H2 n2 E2 s2 => ?_⟩
      refine ⟨_, rfl, fun e3 H3 n3 E3 s3 => ?_⟩
      refine ⟨by show 4 ≤ sizeLine; decide, fun p hp => ?_⟩
      refine ⟨_, rfl, _, _, rfl, rfl, p, _, _, _, rfl, rfl, SqL.of upd_same, rfl, ?_⟩
      have EE : ErAt (upd H3 p (.lst [V.ref e0, V.ref e1, V.ref e2, V.ref e3])) e0 (cA K 4) (fl 4) x := E0.same (s1.trans (s2.trans (s3.trans (same_new (o := .lst [V.ref e0, V.ref e1, V.ref e2, V.ref e3]) hp))))
      have SS := Same.trans (Same.refl H) (s0.trans (s1.trans (s2.trans (s3.trans (same_new (o := .lst [V.ref e0, V.ref e1, V.ref e2, V.ref e3]) hp)))))
      generalize upd H3 p (.lst [V.ref e0, V.ref e1, V.ref e2, V.ref e3]) = HH at EE SS ⊢
      refine ⟨_, rfl, _, _, rfl, rfl, _, rfl, ite_t (by decide) ?_⟩
      exact ⟨_, rfl, _, rfl, rfl, _, rfl, ite_t (by decide) ⟨_, rfl, e0, _, _, rfl, (EH 4 (by decide)).xf, (EH 4 (by decide)).T.hno, EE, by show 2 ≤ sizeLine; decide, fun t ht => hQ t e0 _ (SS.trans (same_new ht)) (SS.free ht) upd_same (EE.same (same_new ht))⟩⟩
    · refine ⟨_, rfl, _, _, rfl, rfl, _, rfl, ite_f (by decide) ?_⟩
      refine ⟨_, rfl, _, _, rfl, rfl, _, rfl, ite_t (by decide) ?_⟩
      refine ⟨_, rfl, fun e0 H0 n0 E0 s0 => ?_⟩
      refine ⟨_, rfl, fun e1 H1 n1 E1 s1 => ?_⟩
      refine ⟨_, rfl, fun e2 H2 n2 E2 s2 => ?_⟩
      refine ⟨_, rfl, fun e3 H3 n3 E3 s3 => ?_⟩
      refine ⟨by show 4 ≤ sizeLine; decide, fun p hp => ?_⟩
      refine ⟨_, rfl, _, _, rfl, rfl, p, _, _, _, rfl, rfl, SqL.of upd_same, rfl, ?_⟩
      have EE : ErAt (upd H3 p (.lst [V.ref e0, V.ref e1, V.ref e2, V.ref e3])) e1 (cA K 5) (fl 5) x := E1.same (s2.trans (s3.trans (same_new (o := .lst [V.ref e0, V.ref e1, V.ref e2, V.ref e3]) hp)))
      have SS := Same.trans (Same.refl H) (s0.trans (s1.trans (s2.trans (s3.trans (same_new (o := .lst [V.ref e0, V.ref e1, V.ref e2, V.ref e3]) hp)))))
      generalize upd H3 p (.lst [V.ref e0, V.ref e1, V.ref e2, V.ref e3]) = HH at EE SS ⊢
      refine ⟨_, rfl, _, _, rfl, rfl, _, rfl, ite_t (by decide) ?_⟩
      exact ⟨_, rfl, _, rfl, rfl, _, rfl, ite_f (by decide) ⟨_, rfl, e1, _, _, rfl, (EH 5 (by decide)).xf, (EH 5 (by decide)).T.hno, EE, by show 2 ≤ sizeLine; decide, fun t ht => hQ t e1 _ (SS.trans (same_new ht)) (SS.free ht) upd_same (EE.same (same_new ht))⟩⟩
    · refine ⟨_, rfl, _, _, rfl, rfl, _, rfl, ite_f (by decide) ?_⟩
      refine ⟨_, rfl, _, _, rfl, rfl, _, rfl, ite_t (by decide) ?_⟩
      refine ⟨_, rfl, fun e0 H0 n0 E0 s0 => ?_⟩
      refine ⟨_, rfl, fun e1 H1 n1 E1 s1 => ?_⟩
      refine ⟨_, rfl, fun e2 H2 n2 E2 s2 => ?_⟩
      refine ⟨_, rfl, fun e3 H3 n3 E3 s3 => ?_⟩
      refine ⟨by show 4 ≤ sizeLine; decide, fun p hp => ?_⟩
      refine ⟨_, rfl, _, _, rfl, rfl, p, _, _, _, rfl, rfl, SqL.of upd_same, rfl, ?_⟩
      have EE : ErAt (upd H3 p (.lst [V.ref e0, V.ref e1, V.ref e2, V.ref e3])) e2 (cA K 6) (fl 6) x := E2.same (s3.trans (same_new (o := .lst [V.ref e0, V.ref e1, V.ref e2, V.ref e3]) hp))
      have SS := Same.trans (Same.refl H) (s0.trans (s1.trans (s2.trans (s3.trans (same_new (o := .lst [V.ref e0, V.ref e1, V.ref e2, V.ref e3]) hp)))))
      generalize upd H3 p (.lst [V.ref e0, V.ref e1, V.ref e2, V.ref e3]) = HH at EE SS ⊢
      refine ⟨_, rfl, _, _, rfl, rfl, _, rfl, ite_f (by decide) ?_⟩
      exact ⟨_, rfl, _, rfl, rfl, _, rfl, ite_t (by decide) ⟨_, rfl, e2, _, _, rfl, (EH 6 (by decide)).xf, (EH 6 (by decide)).T.hno, EE, by show 2 ≤ sizeLine; decide, fun t ht => hQ t e2 _ (SS.trans (same_new ht)) (SS.free ht) upd_same (EE.same (same_new ht))⟩⟩
    · refine ⟨_, rfl, _, _, rfl, rfl, _, rfl, ite_f (by decide) ?_⟩
      refine ⟨_, rfl, _, _, rfl, rfl, _, rfl, ite_t (by decide) ?_⟩
      refine ⟨_, rfl, fun e0 H0 n0 E0 s0 => ?_⟩
      refine ⟨_, rfl, fun e1 H1 n1 E1 s1 => ?_⟩
      refine ⟨_, rfl, fun e2 H2 n2 E2 s2 => ?_⟩
      refine ⟨_, rfl, fun e3 H3 n3 E3 s3 => ?_⟩
      refine ⟨by show 4 ≤ sizeLine; decide, fun p hp => ?_⟩
      refine ⟨_, rfl, _, _, rfl, rfl, p, _, _, _, rfl, rfl, SqL.of upd_same, rfl, ?_⟩
      have EE : ErAt (upd H3 p (.lst [V.ref e0, V.ref e1, V.ref e2, V.ref e3])) e3 (cA K 7) (fl 7) x := E3.same (same_new (o := .lst [V.ref e0, V.ref e1, V.ref e2, V.ref e3]) hp)
      have SS := Same.trans (Same.refl H) (s0.trans (s1.trans (s2.trans (s3.trans (same_new (o := .lst [V.ref e0, V.ref e1, V.ref e2, V.ref e3]) hp)))))
      generalize upd H3 p (.lst [V.ref e0, V.ref e1, V.ref e2, V.ref e3]) = HH at EE SS ⊢
      refine ⟨_, rfl, _, _, rfl, rfl, _, rfl, ite_f (by decide) ?_⟩
      exact ⟨_, rfl, _, rfl, rfl, _, rfl, ite_f (by decide) ⟨_, rfl, e3, _, _, rfl, (EH 7 (by decide)).xf, (EH 7 (by decide)).T.hno, EE, by show 2 ≤ sizeLine; decide, fun t ht => hQ t e3 _ (SS.trans (same_new ht)) (SS.free ht) upd_same (EE.same (same_new ht))⟩⟩
    · refine ⟨_, rfl, _, _, rfl, rfl, _, rfl, ite_f (by decide) ?_⟩
      refine ⟨_, rfl, _, _, rfl, rfl, _, rfl, ite_f (by decide) ?_⟩
      refine ⟨_, rfl, fun e0 H0 n0 E0 s0 => ?_⟩
      refine ⟨_, rfl, fun e1 H1 n1 E1 s1 => ?_⟩
      refine ⟨_, rfl, fun e2 H2 n2 E2 s2 => ?_⟩
      refine ⟨by show 3 ≤ sizeLine; decide, fun p hp => ?_⟩
      refine ⟨_, rfl, _, _, rfl, rfl, p, _, _, _, rfl, rfl, SqL.of upd_same, rfl, ?_⟩
      have EE : ErAt (upd H2 p (.lst [V.ref e0, V.ref e1, V.ref e2])) e0 (cA K 8) (fl 8) x := E0.same (s1.trans (s2.trans (same_new (o := .lst [V.ref e0, V.ref e1, V.ref e2]) hp)))
      have SS := Same.trans (Same.refl H) (s0.trans (s1.trans (s2.trans (same_new (o := .lst [V.ref e0, V.ref e1, V.ref e2]) hp))))
      generalize upd H2 p (.lst [V.ref e0, V.ref e1, V.ref e2]) = HH at EE SS ⊢
      exact ⟨_, rfl, _, rfl, rfl, _, rfl, ite_t (by decide) ⟨_, rfl, e0, _, _, rfl, (EH 8 (by decide)).xf, (EH 8 (by decide)).T.hno, EE, by show 2 ≤ sizeLine; decide, fun t ht => hQ t e0 _ (SS.trans (same_new ht)) (SS.free ht) upd_same (EE.same (same_new ht))⟩⟩
    · refine ⟨_, rfl, _, _, rfl, rfl, _, rfl, ite_f (by decide) ?_⟩
      refine ⟨_, rfl, _, _, rfl, rfl, _, rfl, ite_f (by decide) ?_⟩
      refine ⟨_, rfl, fun e0 H0 n0 E0 s0 => ?_⟩
      refine ⟨_, rfl, fun e1 H1 n1 E1 s1 => ?_⟩
      refine ⟨_, rfl, fun e2 H2 n2 E2 s2 => ?_⟩
      refine ⟨by show 3 ≤ sizeLine; decide, fun p hp => ?_⟩
      refine ⟨_, rfl, _, _, rfl, rfl, p, _, _, _, rfl, rfl, SqL.of upd_same, rfl, ?_⟩
      have EE : ErAt (upd H2 p (.lst [V.ref e0, V.ref e1, V.ref e2])) e1 (cA K 9) (fl 9) x := E1.same (s2.trans (same_new (o := .lst [V.ref e0, V.ref e1, V.ref e2]) hp))
      have SS := Same.trans (Same.refl H) (s0.trans (s1.trans (s2.trans (same_new (o := .lst [V.ref e0, V.ref e1, V.ref e2]) hp))))
      generalize upd H2 p (.lst [V.ref e0, V.ref e1, V.ref e2]) = HH at EE SS ⊢
      exact ⟨_, rfl, _, rfl, rfl, _, rfl, ite_f (by decide) ⟨_, rfl, rfl, _, rfl, ite_t (by decide) ⟨_, rfl, e1, _, _, rfl, (EH 9 (by decide)).xf, (EH 9 (by decide)).T.hno, EE, by show 2 ≤ sizeLine; decide, fun t ht => hQ t e1 _ (SS.trans (same_new ht)) (SS.free ht) upd_same (EE.same (same_new ht))⟩⟩⟩
    · refine ⟨_, rfl, _, _, rfl, rfl, _, rfl, ite_f (by decide) ?_⟩
      refine ⟨_, rfl, _, _, rfl, rfl, _, rfl, ite_f (by decide) ?_⟩
      refine ⟨_, rfl, fun e0 H0 n0 E0 s0 => ?_⟩
      refine ⟨_, rfl, fun e1 H1 n1 E1 s1 => ?_⟩
      refine ⟨_, rfl, fun e2 H2 n2 E2 s2 => ?_⟩
      refine ⟨by show 3 ≤ sizeLine; decide, fun p hp => ?_⟩
      refine ⟨_, rfl, _, _, rfl, rfl, p, _, _, _, rfl, rfl, SqL.of upd_same, rfl, ?_⟩
      have EE : ErAt (upd H2 p (.lst [V.ref e0, V.ref e1, V.ref e2])) e2 (cA K 10) (fl 10) x := E2.same (same_new (o := .lst [V.ref e0, V.ref e1, V.ref e2]) hp)
      have SS := Same.trans (Same.refl H) (s0.trans (s1.trans (s2.trans (same_new (o := .lst [V.ref e0, V.ref e1, V.ref e2]) hp))))
      generalize upd H2 p (.lst [V.ref e0, V.ref e1, V.ref e2]) = HH at EE SS ⊢
      exact ⟨_, rfl, _, rfl, rfl, _, rfl, ite_f (by decide) ⟨_, rfl, rfl, _, rfl, ite_f (by decide) ⟨_, rfl, e2, _, _, rfl, (EH 10 (by decide)).xf, (EH 10 (by decide)).T.hno, EE, by show 2 ≤ sizeLine; decide, fun t ht => hQ t e2 _ (SS.trans (same_new ht)) (SS.free ht) upd_same (EE.same (same_new ht))⟩⟩⟩

theorem ok_md {f : Addr} {fd : FuncData} (F : Fun K "_law_made_at" "_law_made_at" sMd f fd) (EH : ∀ i, i < 21 → ErH P w K mg base i) {fF : Addr} {fdF : FuncData} (DF : DefAt K mg "_law_first_made" sFm ["at", "x"] fF fdF) (OF : FnOk P w K mg base CX0 3 fF fdF ["at", "x"] (spMd K 0 11)) : FnOk P w K mg base CX0 4 f fd ["at", "x"] (spMd K 0 21) := by
  refine F.ok scMd (fun vs H Q E h => ?_) (fun cdv A outer s H vs Q E hr h => ?_)
  · obtain ⟨i, x, rfl, _⟩ := h
    rfl
  have hr2 : Room 2 _ := hr.mono (by decide)
  have hr3 : Room 3 _ := hr
  apply Exists.intro
  apply And.intro
  case left =>
    exact (pss_cons (ps_if (pt_cmpR op_lt (pv 0) pe_int (nob _)) (pss_one (ps_ret (pe_call OF hr3 rfl DF.g DF.F.kp DF.b .nil pass0 (pa_cons (pv 0) (pa_cons (pv 1) pa_nil))))) pss_nil) (pss_cons (ps_if (pt_cmpR op_lt (pv 0) pe_int (nob _)) (pss_cons (ps_set (i := 2) scMd.nd rfl (Or.inl rfl) (pe_ix ix_list (pe_lst (pa_cons (pe_er (i := 11) (EH 11 (by decide)) hr2 rfl (pv 1)) (pa_cons (pe_er (i := 12) (EH 12 (by decide)) hr2 rfl (pv 1)) (pa_cons (pe_erk (i := 13) (EH 13 (by decide)) hr2 rfl (pv 1)) (pa_cons (pe_er (i := 14) (EH 14 (by decide)) hr2 rfl (pv 1)) pa_nil))))) (pe_op op_sub (pv 0) pe_int) (fun _ _ => rfl))) (pss_cons (ps_if (pt_cmpR op_lt (pv 0) pe_int (nob _)) (pss_one (ps_ret (pe_tup (pa_cons (pv 2) (pa_cons (pe_ifExp (pt_cmpR op_eq (pv 0) pe_int (nob _)) (pe_erf (pv 2)) (pe_erf (pv 2))) pa_nil))))) pss_nil) (pss_one (ps_ret (pe_tup (pa_cons (pv 2) (pa_cons (pe_ifExp (pt_cmpR op_eq (pv 0) pe_int (nob _)) (pe_erf (pv 2)) (pe_erf (pv 2))) pa_nil))))))) pss_nil) (pss_cons (ps_set (i := 2) scMd.nd rfl (Or.inl rfl) (pe_ix ix_list (pe_lst (pa_cons (pe_er (i := 15) (EH 15 (by decide)) hr2 rfl (pv 1)) (pa_cons (pe_er (i := 16) (EH 16 (by decide)) hr2 rfl (pv 1)) (pa_cons (pe_er (i := 17) (EH 17 (by decide)) hr2 rfl (pv 1)) (pa_cons (pe_er (i := 18) (EH 18 (by decide)) hr2 rfl (pv 1)) (pa_cons (pe_erk (i := 19) (EH 19 (by decide)) hr2 rfl (pv 1)) (pa_cons (pe_er (i := 20) (EH 20 (by decide)) hr2 rfl (pv 1)) pa_nil))))))) (pe_op op_sub (pv 0) pe_int) (fun _ _ => rfl))) (pss_cons (ps_if (pt_cmpR op_eq (pv 0) pe_int (nob _)) (pss_one (ps_ret (pe_tup (pa_cons (pv 2) (pa_cons (pe_erf (pv 2)) pa_nil))))) pss_nil) (pss_one (ps_ret (pe_tup (pa_cons (pv 2) (pa_cons (pe_ifExp (pt_cmpR op_eq (pv 0) pe_int (nob _)) (pe_erf (pv 2)) (pe_erf (pv 2))) pa_nil)))))))))
  case right =>
    obtain ⟨i, x, rfl, i0, i1, hQ⟩ := h
    by_cases z : i < 11
    · refine ⟨_, rfl, _, _, rfl, rfl, _, rfl, ite_t (decide_eq_true z) ?_⟩
      exact ⟨_, rfl, _, rfl, i, x, rfl, i0, z, hQ⟩
    have hc : i = 11 ∨ i = 12 ∨ i = 13 ∨ i = 14 ∨ i = 15 ∨ i = 16 ∨ i = 17 ∨ i = 18 ∨ i = 19 ∨ i = 20 := by omega
    rcases hc with rfl | rfl | rfl | rfl | rfl | rfl | rfl | rfl | rfl | rfl
    · refine ⟨_, rfl, _, _, rfl, rfl, _, rfl, ite_f (by decide) ?_⟩
      refine ⟨_, rfl, _, _, rfl, rfl, _, rfl, ite_t (by decide) ?_⟩
      refine ⟨_, rfl, fun e0 H0 n0 E0 s0 => ?_⟩
      refine ⟨_, rfl, fun e1 H1 n1 E1 s1 => ?_⟩
      refine ⟨_, rfl, fun e2 H2 n2 E2 s2 => ?_⟩
      refine ⟨_, rfl, fun e3 H3 n3 E3 s3 => ?_⟩
      refine ⟨by show 4 ≤ sizeLine; decide, fun p hp => ?_⟩
      refine ⟨_, rfl, _, _, rfl, rfl, p, _, _, _, rfl, rfl, SqL.of upd_same, rfl, ?_⟩
      have EE : ErAt (upd H3 p (.lst [V.ref e0, V.ref e1, V.ref e2, V.ref e3])) e0 (cA K 11) (fl 11) x := E0.same (s1.trans (s2.trans (s3.trans (same_new (o := .lst [V.ref e0, V.ref e1, V.ref e2, V.ref e3]) hp))))
      have SS := Same.trans (Same.refl H) (s0.trans (s1.trans (s2.trans (s3.trans (same_new (o := .lst [V.ref e0, V.ref e1, V.ref e2, V.ref e3]) hp)))))
      generalize upd H3 p (.lst [V.ref e0, V.ref e1, V.ref e2, V.ref e3]) = HH at EE SS ⊢
      refine ⟨_, rfl, _, _, rfl, rfl, _, rfl, ite_t (by decide) ?_⟩
      exact ⟨_, rfl, _, rfl, rfl, _, rfl, ite_t (by decide) ⟨_, rfl, e0, _, _, rfl, (EH 11 (by decide)).xf, (EH 11 (by decide)).T.hno, EE, by show 2 ≤ sizeLine; decide, fun t ht => hQ t e0 _ (SS.trans (same_new ht)) (SS.free ht) upd_same (EE.same (same_new ht))⟩⟩
    · refine ⟨_, rfl, _, _, rfl, rfl, _, rfl, ite_f (by decide) ?_⟩
      refine ⟨_, rfl, _, _, rfl, rfl, _, rfl, ite_t (by decide) ?_⟩
      refine ⟨_, rfl, fun e0 H0 n0 E0 s0 => ?_⟩
      refine ⟨_, rfl, fun e1 H1 n1 E1 s1 => ?_⟩
      refine ⟨_, rfl, fun e2 H2 n2 E2 s2 => ?_⟩
      refine ⟨_, rfl, fun e3 H3 n3 E3 s3 => ?_⟩
      refine ⟨by show 4 ≤ sizeLine; decide, fun p hp => ?_⟩
      refine ⟨_, rfl, _, _, rfl, rfl, p, _, _, _, rfl, rfl, SqL.of upd_same, rfl, ?_⟩
      have EE : ErAt (upd H3 p (.lst [V.ref e0, V.ref e1, V.ref e2, V.ref e3])) e1 (cA K 12) (fl 12) x := E1.same (s2.trans (s3.trans (same_new (o := .lst [V.ref e0, V.ref e1, V.ref e2, V.ref e3]) hp)))
      have SS := Same.trans (Same.refl H) (s0.trans (s1.trans (s2.trans (s3.trans (same_new (o := .lst [V.ref e0, V.ref e1, V.ref e2, V.ref e3]) hp)))))
      generalize upd H3 p (.lst [V.ref e0, V.ref e1, V.ref e2, V.ref e3]) = HH at EE SS ⊢
      refine ⟨_, rfl, _, _, rfl, rfl, _, rfl, ite_t (by decide) ?_⟩
      exact ⟨_, rfl, _, rfl, rfl, _, rfl, ite_f (by decide) ⟨_, rfl, e1, _, _, rfl, (EH 12 (by decide)).xf, (EH 12 (by decide)).T.hno, EE, by show 2 ≤ sizeLine; decide, fun t ht => hQ t e1 _ (SS.trans (same_new ht)) (SS.free ht) upd_same (EE.same (same_new ht))⟩⟩
    · refine ⟨_, rfl, _, _, rfl, rfl, _, rfl, ite_f (by decide) ?_⟩
      refine ⟨_, rfl, _, _, rfl, rfl, _, rfl, ite_t (by decide) ?_⟩
      refine ⟨_, rfl, fun e0 H0 n0 E0 s0 => ?_⟩
      refine ⟨_, rfl, fun e1 H1 n1 E1 s1 => ?_⟩
      refine ⟨_, rfl, fun e2 H2 n2 E2 s2 => ?_⟩
      refine ⟨_, rfl, fun e3 H3 n3 E3 s3 => ?_⟩
      refine ⟨by show 4 ≤ sizeLine; decide, fun p hp => ?_⟩
      refine ⟨_, rfl, _, _, rfl, rfl, p, _, _, _, rfl, rfl, SqL.of upd_same, rfl, ?_⟩
      have EE : ErAt (upd H3 p (.lst [V.ref e0, V.ref e1, V.ref e2, V.ref e3])) e2 (cA K 13) (fl 13) x := E2.same (s3.trans (same_new (o := .lst [V.ref e0, V.ref e1, V.ref e2, V.ref e3]) hp))
      have SS := Same.trans (Same.refl H) (s0.trans (s1.trans (s2.trans (s3.trans (same_new (o := .lst [V.ref e0, V.ref e1, V.ref e2, V.ref e3]) hp)))))
      generalize upd H3 p (.lst [V.ref e0, V.ref e1, V.ref e2, V.ref e3]) = HH at EE SS ⊢
      refine ⟨_, rfl, _, _, rfl, rfl, _, rfl, ite_f (by decide) ?_⟩
      exact ⟨_, rfl, _, rfl, rfl, _, rfl, ite_t (by decide) ⟨_, rfl, e2, _, _, rfl, (EH 13 (by decide)).xf, (EH 13 (by decide)).T.hno, EE, by show 2 ≤ sizeLine; decide, fun t ht => hQ t e2 _ (SS.trans (same_new ht)) (SS.free ht) upd_same (EE.same (same_new ht))⟩⟩
    · refine ⟨_, rfl, _, _, rfl, rfl, _, rfl, ite_f (by decide) ?_⟩
      refine ⟨_, rfl, _, _, rfl, rfl, _, rfl, ite_t (by decide) ?_⟩
      refine ⟨_, rfl, fun e0 H0 n0 E0 s0 => ?_⟩
      refine ⟨_, rfl, fun e1 H1 n1 E1 s1 => ?_⟩
      refine ⟨_, rfl, fun e2 H2 n2 E2 s2 => ?_⟩
      refine ⟨_, rfl, fun e3 H3 n3 E3 s3 => ?_⟩
      refine ⟨by show 4 ≤ sizeLine; decide, fun p hp => ?_⟩
      refine ⟨_, rfl, _, _, rfl, rfl, p, _, _, _, rfl, rfl, SqL.of upd_same, rfl, ?_⟩
      have EE : ErAt (upd H3 p (.lst [V.ref e0, V.ref e1, V.ref e2, V.ref e3])) e3 (cA K 14) (fl 14) x := E3.same (same_new (o := .lst [V.ref e0, V.ref e1, V.ref e2, V.ref e3]) hp)
      have SS := Same.trans (Same.refl H) (s0.trans (s1.trans (s2.trans (s3.trans (same_new (o := .lst [V.ref e0, V.ref e1, V.ref e2, V.ref e3]) hp)))))
      generalize upd H3 p (.lst [V.ref e0, V.ref e1, V.ref e2, V.ref e3]) = HH at EE SS ⊢
      refine ⟨_, rfl, _, _, rfl, rfl, _, rfl, ite_f (by decide) ?_⟩
      exact ⟨_, rfl, _, rfl, rfl, _, rfl, ite_f (by decide) ⟨_, rfl, e3, _, _, rfl, (EH 14 (by decide)).xf, (EH 14 (by decide)).T.hno, EE, by show 2 ≤ sizeLine; decide, fun t ht => hQ t e3 _ (SS.trans (same_new ht)) (SS.free ht) upd_same (EE.same (same_new ht))⟩⟩
    · refine ⟨_, rfl, _, _, rfl, rfl, _, rfl, ite_f (by decide) ?_⟩
      refine ⟨_, rfl, _, _, rfl, rfl, _, rfl, ite_f (by decide) ?_⟩
      refine ⟨_, rfl, fun e0 H0 n0 E0 s0 => ?_⟩
      refine ⟨_, rfl, fun e1 H1 n1 E1 s1 => ?_⟩
      refine ⟨_, rfl, fun e2 H2 n2 E2 s2 => ?_⟩
      refine ⟨_, rfl, fun e3 H3 n3 E3 s3 => ?_⟩
      refine ⟨_, rfl, fun e4 H4 n4 E4 s4 => ?_⟩
      refine ⟨_, rfl, fun e5 H5 n5 E5 s5 => ?_⟩
      refine ⟨by show 6 ≤ sizeLine; decide, fun p hp => ?_⟩
      refine ⟨_, rfl, _, _, rfl, rfl, p, _, _, _, rfl, rfl, SqL.of upd_same, rfl, ?_⟩
      have EE : ErAt (upd H5 p (.lst [V.ref e0, V.ref e1, V.ref e2, V.ref e3, V.ref e4, V.ref e5])) e0 (cA K 15) (fl 15) x := E0.same (s1.trans (s2.trans (s3.trans (s4.trans (s5.trans (same_new (o := .lst [V.ref e0, V.ref e1, V.ref e2, V.ref e3, V.ref e4, V.ref e5]) hp))))))
      have SS := Same.trans (Same.refl H) (s0.trans (s1.trans (s2.trans (s3.trans (s4.trans (s5.trans (same_new (o := .lst [V.ref e0, V.ref e1, V.ref e2, V.ref e3, V.ref e4, V.ref e5]) hp)))))))
      generalize upd H5 p (.lst [V.ref e0, V.ref e1, V.ref e2, V.ref e3, V.ref e4, V.ref e5]) = HH at EE SS ⊢
      refine ⟨_, rfl, rfl, _, rfl, ite_t (by decide) ?_⟩
      exact ⟨_, rfl, _, rfl, e0, _, _, rfl, (EH 15 (by decide)).xf, (EH 15 (by decide)).T.hno, EE, by show 2 ≤ sizeLine; decide, fun t ht => hQ t e0 _ (SS.trans (same_new ht)) (SS.free ht) upd_same (EE.same (same_new ht))⟩
    · refine ⟨_, rfl, _, _, rfl, rfl, _, rfl, ite_f (by decide) ?_⟩
      refine ⟨_, rfl, _, _, rfl, rfl, _, rfl, ite_f (by decide) ?_⟩
      refine ⟨_, rfl, fun e0 H0 n0 E0 s0 => ?_⟩
      refine ⟨_, rfl, fun e1 H1 n1 E1 s1 => ?_⟩
      refine ⟨_, rfl, fun e2 H2 n2 E2 s2 => ?_⟩
      refine ⟨_, rfl, fun e3 H3 n3 E3 s3 => ?_⟩
      refine ⟨_, rfl, fun e4 H4 n4 E4 s4 => ?_⟩
      refine ⟨_, rfl, fun e5 H5 n5 E5 s5 => ?_⟩
      refine ⟨by show 6 ≤ sizeLine; decide, fun p hp => ?_⟩
      refine ⟨_, rfl, _, _, rfl, rfl, p, _, _, _, rfl, rfl, SqL.of upd_same, rfl, ?_⟩
      have EE : ErAt (upd H5 p (.lst [V.ref e0, V.ref e1, V.ref e2, V.ref e3, V.ref e4, V.ref e5])) e1 (cA K 16) (fl 16) x := E1.same (s2.trans (s3.trans (s4.trans (s5.trans (same_new (o := .lst [V.ref e0, V.ref e1, V.ref e2, V.ref e3, V.ref e4, V.ref e5]) hp)))))
      have SS := Same.trans (Same.refl H) (s0.trans (s1.trans (s2.trans (s3.trans (s4.trans (s5.trans (same_new (o := .lst [V.ref e0, V.ref e1, V.ref e2, V.ref e3, V.ref e4, V.ref e5]) hp)))))))
      generalize upd H5 p (.lst [V.ref e0, V.ref e1, V.ref e2, V.ref e3, V.ref e4, V.ref e5]) = HH at EE SS ⊢
      refine ⟨_, rfl, rfl, _, rfl, ite_f (by decide) ?_⟩
      exact ⟨_, rfl, _, rfl, rfl, _, rfl, ite_f (by decide) ⟨_, rfl, e1, _, _, rfl, (EH 16 (by decide)).xf, (EH 16 (by decide)).T.hno, EE, by show 2 ≤ sizeLine; decide, fun t ht => hQ t e1 _ (SS.trans (same_new ht)) (SS.free ht) upd_same (EE.same (same_new ht))⟩⟩
    · refine ⟨_, rfl, _, _, rfl, rfl, _, rfl, ite_f (by decide) ?_⟩
      refine ⟨_, rfl, _, _, rfl, rfl, _, rfl, ite_f (by decide) ?_⟩
      refine ⟨_, rfl, fun e0 H0 n0 E0 s0 => ?_⟩
      refine ⟨_, rfl, fun e1 H1 n1 E1 s1 => ?_⟩
      refine ⟨_, rfl, fun e2 H2 n2 E2 s2 => ?_⟩
      refine ⟨_, rfl, fun e3 H3 n3 E3 s3 => ?_⟩
      refine ⟨_, rfl, fun e4 H4 n4 E4 s4 => ?_⟩
      refine ⟨_, rfl, fun e5 H5 n5 E5 s5 => ?_⟩
      refine ⟨by show 6 ≤ sizeLine; decide, fun p hp => ?_⟩
      refine ⟨_, rfl, _, _, rfl, rfl, p, _, _, _, rfl, rfl, SqL.of upd_same, rfl, ?_⟩
      have EE : ErAt (upd H5 p (.lst [V.ref e0, V.ref e1, V.ref e2, V.ref e3, V.ref e4, V.ref e5])) e2 (cA K 17) (fl 17) x := E2.same (s3.trans (s4.trans (s5.trans (same_new (o := .lst [V.ref e0, V.ref e1, V.ref e2, V.ref e3, V.ref e4, V.ref e5]) hp))))
      have SS := Same.trans (Same.refl H) (s0.trans (s1.trans (s2.trans (s3.trans (s4.trans (s5.trans (same_new (o := .lst [V.ref e0, V.ref e1, V.ref e2, V.ref e3, V.ref e4, V.ref e5]) hp)))))))
      generalize upd H5 p (.lst [V.ref e0, V.ref e1, V.ref e2, V.ref e3, V.ref e4, V.ref e5]) = HH at EE SS ⊢
      refine ⟨_, rfl, rfl, _, rfl, ite_f (by decide) ?_⟩
      exact ⟨_, rfl, _, rfl, rfl, _, rfl, ite_f (by decide) ⟨_, rfl, e2, _, _, rfl, (EH 17 (by decide)).xf, (EH 17 (by decide)).T.hno, EE, by show 2 ≤ sizeLine; decide, fun t ht => hQ t e2 _ (SS.trans (same_new ht)) (SS.free ht) upd_same (EE.same (same_new ht))⟩⟩
    · refine ⟨_, rfl, _, _, rfl, rfl, _, rfl, ite_f (by decide) ?_⟩
      refine ⟨_, rfl, _, _, rfl, rfl, _, rfl, ite_f (by decide) ?_⟩
      refine ⟨_, rfl, fun e0 H0 n0 E0 s0 => ?_⟩
      refine ⟨_, rfl, fun e1 H1 n1 E1 s1 => ?_⟩
      refine ⟨_, rfl, fun e2 H2 n2 E2 s2 => ?_⟩
      refine ⟨_, rfl, fun e3 H3 n3 E3 s3 => ?_⟩
      refine ⟨_, rfl, fun e4 H4 n4 E4 s4 => ?_⟩
      refine ⟨_, rfl, fun e5 H5 n5 E5 s5 => ?_⟩
      refine ⟨by show 6 ≤ sizeLine; decide, fun p hp => ?_⟩
      refine ⟨_, rfl, _, _, rfl, rfl, p, _, _, _, rfl, rfl, SqL.of upd_same, rfl, ?_⟩
      have EE : ErAt (upd H5 p (.lst [V.ref e0, V.ref e1, V.ref e2, V.ref e3, V.ref e4, V.ref e5])) e3 (cA K 18) (fl 18) x := E3.same (s4.trans (s5.trans (same_new (o := .lst [V.ref e0, V.ref e1, V.ref e2, V.ref e3, V.ref e4, V.ref e5]) hp)))
      have SS := Same.trans (Same.refl H) (s0.trans (s1.trans (s2.trans (s3.trans (s4.trans (s5.trans (same_new (o := .lst [V.ref e0, V.ref e1, V.ref e2, V.ref e3, V.ref e4, V.ref e5]) hp)))))))
      generalize upd H5 p (.lst [V.ref e0, V.ref e1, V.ref e2, V.ref e3, V.ref e4, V.ref e5]) = HH at EE SS ⊢
      refine ⟨_, rfl, rfl, _, rfl, ite_f (by decide) ?_⟩
      exact ⟨_, rfl, _, rfl, rfl, _, rfl, ite_t (by decide) ⟨_, rfl, e3, _, _, rfl, (EH 18 (by decide)).xf, (EH 18 (by decide)).T.hno, EE, by show 2 ≤ sizeLine; decide, fun t ht => hQ t e3 _ (SS.trans (same_new ht)) (SS.free ht) upd_same (EE.same (same_new ht))⟩⟩
    · refine ⟨_, rfl, _, _, rfl, rfl, _, rfl, ite_f (by decide) ?_⟩
      refine ⟨_, rfl, _, _, rfl, rfl, _, rfl, ite_f (by decide) ?_⟩
      refine ⟨_, rfl, fun e0 H0 n0 E0 s0 => ?_⟩
      refine ⟨_, rfl, fun e1 H1 n1 E1 s1 => ?_⟩
      refine ⟨_, rfl, fun e2 H2 n2 E2 s2 => ?_⟩
      refine ⟨_, rfl, fun e3 H3 n3 E3 s3 => ?_⟩
      refine ⟨_, rfl, fun e4 H4 n4 E4 s4 => ?_⟩
      refine ⟨_, rfl, fun e5 H5 n5 E5 s5 => ?_⟩
      refine ⟨by show 6 ≤ sizeLine; decide, fun p hp => ?_⟩
      refine ⟨_, rfl, _, _, rfl, rfl, p, _, _, _, rfl, rfl, SqL.of upd_same, rfl, ?_⟩
      have EE : ErAt (upd H5 p (.lst [V.ref e0, V.ref e1, V.ref e2, V.ref e3, V.ref e4, V.ref e5])) e4 (cA K 19) (fl 19) x := E4.same (s5.trans (same_new (o := .lst [V.ref e0, V.ref e1, V.ref e2, V.ref e3, V.ref e4, V.ref e5]) hp))
      have SS := Same.trans (Same.refl H) (s0.trans (s1.trans (s2.trans (s3.trans (s4.trans (s5.trans (same_new (o := .lst [V.ref e0, V.ref e1, V.ref e2, V.ref e3, V.ref e4, V.ref e5]) hp)))))))
      generalize upd H5 p (.lst [V.ref e0, V.ref e1, V.ref e2, V.ref e3, V.ref e4, V.ref e5]) = HH at EE SS ⊢
      refine ⟨_, rfl, rfl, _, rfl, ite_f (by decide) ?_⟩
      exact ⟨_, rfl, _, rfl, rfl, _, rfl, ite_f (by decide) ⟨_, rfl, e4, _, _, rfl, (EH 19 (by decide)).xf, (EH 19 (by decide)).T.hno, EE, by show 2 ≤ sizeLine; decide, fun t ht => hQ t e4 _ (SS.trans (same_new ht)) (SS.free ht) upd_same (EE.same (same_new ht))⟩⟩
    · refine ⟨_, rfl, _, _, rfl, rfl, _, rfl, ite_f (by decide) ?_⟩
      refine ⟨_, rfl, _, _, rfl, rfl, _, rfl, ite_f (by decide) ?_⟩
      refine ⟨_, rfl, fun e0 H0 n0 E0 s0 => ?_⟩
      refine ⟨_, rfl, fun e1 H1 n1 E1 s1 => ?_⟩
      refine ⟨_, rfl, fun e2 H2 n2 E2 s2 => ?_⟩
      refine ⟨_, rfl, fun e3 H3 n3 E3 s3 => ?_⟩
      refine ⟨_, rfl, fun e4 H4 n4 E4 s4 => ?_⟩
      refine ⟨_, rfl, fun e5 H5 n5 E5 s5 => ?_⟩
      refine ⟨by show 6 ≤ sizeLine; decide, fun p hp => ?_⟩
      refine ⟨_, rfl, _, _, rfl, rfl, p, _, _, _, rfl, rfl, SqL.of upd_same, rfl, ?_⟩
      have EE : ErAt (upd H5 p (.lst [V.ref e0, V.ref e1, V.ref e2, V.ref e3, V.ref e4, V.ref e5])) e5 (cA K 20) (fl 20) x := E5.same (same_new (o := .lst [V.ref e0, V.ref e1, V.ref e2, V.ref e3, V.ref e4, V.ref e5]) hp)
      have SS := Same.trans (Same.refl H) (s0.trans (s1.trans (s2.trans (s3.trans (s4.trans (s5.trans (same_new (o := .lst [V.ref e0, V.ref e1, V.ref e2, V.ref e3, V.ref e4, V.ref e5]) hp)))))))
      generalize upd H5 p (.lst [V.ref e0, V.ref e1, V.ref e2, V.ref e3, V.ref e4, V.ref e5]) = HH at EE SS ⊢
      refine ⟨_, rfl, rfl, _, rfl, ite_f (by decide) ?_⟩
      exact ⟨_, rfl, _, rfl, rfl, _, rfl, ite_f (by decide) ⟨_, rfl, e5, _, _, rfl, (EH 20 (by decide)).xf, (EH 20 (by decide)).T.hno, EE, by show 2 ≤ sizeLine; decide, fun t ht => hQ t e5 _ (SS.trans (same_new ht)) (SS.free ht) upd_same (EE.same (same_new ht))⟩⟩
end
end L2.E9

set_option Elab.async false
set_option linter.all false
set_option maxRecDepth 100000
set_option maxHeartbeats 4000000
/-! k89, part i: whether it is the very object. -/
namespace L2.E9
open PySem PySem.Spec L2
open PyProof.Rows (envOfC)
abbrev sVy : Stmt := top 31
abbrev nVy : List Str := ["found", "due", "same"]
theorem scVy : FnScope nVy ["found", "due"] (defScope sVy) := ⟨rfl, rfl, rfl, by decide +kernel, rfl, by decide +kernel, by decide +kernel⟩
def spVy : Sp := fun vs H Q _ => ∃ (a0 a1 : Addr) (v : V), vs = [v, v] ∧ ObV a0 a1 H v ∧ ∀ H', Same H H' → Q (.bl true) H'
theorem pe_ty {X : Cx} {x : Str} {n : String} {pos : Pos} (hg : Gl X x) (hm : X.mg x = none) (hv : bootBuiltins x = some (.type n)) (hn : x ≠ "__name__" := by decide) (hd : (x == ("__debug__" : Str)) = false := by decide) : PE X (.Name x pos) (tC (.ty n)) := pe_bltn (v := .ty n) hg hm hv rfl hn hd
theorem bLst : bootBuiltins "list" = some (.type "list") := by decide +kernel
theorem bDct : bootBuiltins "dict" = some (.type "dict") := by decide +kernel
theorem bBl : bootBuiltins "bool" = some (.type "bool") := by decide +kernel
theorem bInt : bootBuiltins "int" = some (.type "int") := by decide +kernel
theorem bStr : bootBuiltins "str" = some (.type "str") := by decide +kernel
theorem bTup : bootBuiltins "tuple" = some (.type "tuple") := by decide +kernel
theorem bLen : bootBuiltins "len" = some (.builtin "len") := by decide +kernel
theorem eqv_l (k : Int) : PyData.eqv (.list [.int k, .list [.int 1]]) (.list [.int k, .list [.int 1]]) = true := by simp [PyData.eqv, PyData.eqvAll]
theorem eqv_t (k : Int) : PyData.eqv (.list [.int 1, .int k]) (.list [.int 1, .int k]) = true := by simp [PyData.eqv, PyData.eqvAll]
theorem dtrue {a : V} : decide (a = a) = true := decide_eq_true rfl
structure Gs (mg : Str → Option Value) : Prop where
  isi : mg "isinstance" = none
  lst : mg "list" = none
  dct : mg "dict" = none
  bl : mg "bool" = none
  int : mg "int" = none
  str : mg "str" = none
  tup : mg "tuple" = none
  len : mg "len" = none
section
variable {P : Program} {w : World} {K : PySem.W.Frag} {mg : Str → Option Value} {base : Heap}
theorem ok_vy {f : Addr} {fd : FuncData} (F : Fun K "_law_very" "_law_very" sVy f fd) (G : Gs mg) : FnOk P w K mg base CX0 1 f fd ["found", "due"] spVy := by
  refine F.ok scVy (fun vs H Q E h => ?_) (fun cdv A outer s H vs Q E hr h => ?_)
  · obtain ⟨a0, a1, v, rfl, _⟩ := h
    rfl
  apply Exists.intro
  apply And.intro
  case left =>
    apply pss_cons
    · exact ps_if (pt_val (pe_callB call_isi rfl G.isi bIsi (pa_cons (pv 1) (pa_cons (pe_ty rfl G.lst bLst) pa_nil)))) (pss_cons (ps_expr (pe_bm PySem.F.plainAttrs_list PySem.F.slot_list_append PySem.F.type_list_append mt_append (pv 1) (pa_cons pe_str pa_nil))) (pss_cons (ps_set (i := 2) scVy.nd rfl (Or.inl rfl) (pe_and (pe_callB call_isi rfl G.isi bIsi (pa_cons (pv 0) (pa_cons (pe_ty rfl G.lst bLst) pa_nil))) (pe_and (pe_cmpR op_eq (pe_callB call_len_seq rfl G.len bLen (pa_cons (pv 0) pa_nil)) (pe_callB call_len_seq rfl G.len bLen (pa_cons (pv 1) pa_nil)) (nob _)) (pe_one (pe_cmpR op_eq (pe_ix ix_list (pv 0) (pe_un un_neg pe_int) (fun _ _ => rfl)) pe_str (nob _)))))) (pss_cons (ps_expr (pe_bm0 PySem.F.plainAttrs_list PySem.F.slot_list_pop PySem.F.type_list_pop mt_pop (pv 1))) (pss_one (ps_ret (pe_and (pv 2) (pe_and (pe_callB call_isi rfl G.isi bIsi (pa_cons (pv 0) (pa_cons (pe_ty rfl G.lst bLst) pa_nil))) (pe_one (pe_cmpR (op_eqD hr.units) (pv 0) (pv 1) (nob _)))))))))) pss_nil
    apply pss_cons
    · exact ps_if (pt_val (pe_callB call_isi rfl G.isi bIsi (pa_cons (pv 1) (pa_cons (pe_ty rfl G.dct bDct) pa_nil)))) (pss_cons (ps_dput (hu_of hr) (pv 1) pe_str pe_int (by rfl)) (pss_cons (ps_set (i := 2) scVy.nd rfl (Or.inl rfl) (pe_and (pe_callB call_isi rfl G.isi bIsi (pa_cons (pv 0) (pa_cons (pe_ty rfl G.dct bDct) pa_nil))) (pe_and (pe_cmp (pc_din (hu_of hr) pe_str (pv 0)) (nob _)) (pe_one (pe_cmpR op_eq (pe_callB call_lenD rfl G.len bLen (pa_cons (pv 0) pa_nil)) (pe_callB call_lenD rfl G.len bLen (pa_cons (pv 1) pa_nil)) (nob _)))))) (pss_cons (ps_expr (pe_dpop1 (pv 1) pe_str ⟨by rfl, by rfl, by rfl, by rfl⟩)) (pss_one (ps_ret (pe_and (pv 2) (pe_and (pe_callB call_isi rfl G.isi bIsi (pa_cons (pv 0) (pa_cons (pe_ty rfl G.dct bDct) pa_nil))) (pe_one (pe_cmpR (op_eq_dict (Nat.lt_of_succ_lt (hu_of hr))) (pv 0) (pv 1) (nob _)))))))))) pss_nil
    apply pss_cons
    · exact ps_if (pt_cmpR op_isN (pv 1) pe_non (nob _)) (pss_one (ps_ret (pe_cmpR op_isN (pv 0) pe_non (nob _)))) pss_nil
    apply pss_cons
    · exact ps_if (pt_val (pe_callB call_isi rfl G.isi bIsi (pa_cons (pv 1) (pa_cons (pe_ty rfl G.bl bBl) pa_nil)))) (pss_one (ps_ret (pe_and (pe_callB call_isi rfl G.isi bIsi (pa_cons (pv 0) (pa_cons (pe_ty rfl G.bl bBl) pa_nil))) (pe_one (pe_cmpR op_eq (pv 0) (pv 1) (nob _)))))) pss_nil
    apply pss_cons
    · exact ps_if (pt_val (pe_callB call_isi rfl G.isi bIsi (pa_cons (pv 1) (pa_cons (pe_ty rfl G.int bInt) pa_nil)))) (pss_one (ps_ret (pe_and (pe_callB call_isi rfl G.isi bIsi (pa_cons (pv 0) (pa_cons (pe_ty rfl G.int bInt) pa_nil))) (pe_and (pe_not (pe_callB call_isi rfl G.isi bIsi (pa_cons (pv 0) (pa_cons (pe_ty rfl G.bl bBl) pa_nil)))) (pe_one (pe_cmpR op_eq (pv 0) (pv 1) (nob _))))))) pss_nil
    apply pss_cons
    · exact ps_if (pt_val (pe_callB call_isi rfl G.isi bIsi (pa_cons (pv 1) (pa_cons (pe_ty rfl G.str bStr) pa_nil)))) (pss_one (ps_ret (pe_and (pe_callB call_isi rfl G.isi bIsi (pa_cons (pv 0) (pa_cons (pe_ty rfl G.str bStr) pa_nil))) (pe_one (pe_cmpR op_eq (pv 0) (pv 1) (nob _)))))) pss_nil
    apply pss_one
    exact ps_ret (pe_and (pe_callB call_isi rfl G.isi bIsi (pa_cons (pv 0) (pa_cons (pe_ty rfl G.tup bTup) pa_nil))) (pe_one (pe_cmpR (op_eqD hr.units) (pe_callTy call_list_of rfl G.lst bLst (pa_cons (pv 0) pa_nil)) (pe_callTy call_list_of rfl G.lst bLst (pa_cons (pv 1) pa_nil)) (nob _))))
  case right =>
    obtain ⟨a0, a1, v, rfl, hO, hQ⟩ := h
    cases hO with
    | int i =>
      refine ⟨_, rfl, _, _, .type "int", .type "list", false, rfl, .ty _, .base (.int _), kit_ty (by decide +kernel), _, rfl, ite_f (fun z => Bool.noConfusion z) ?_⟩
      refine ⟨_, rfl, _, _, .type "int", .type "dict", false, rfl, .ty _, .base (.int _), kit_ty (by decide +kernel), _, rfl, ite_f (fun z => Bool.noConfusion z) ?_⟩
      refine ⟨_, rfl, rfl, _, rfl, ite_f (by rw [decide_eq_true_eq]; intro z; cases z) ?_⟩
      refine ⟨_, rfl, _, _, .type "int", .type "bool", false, rfl, .ty _, .base (.int _), kit_ty (by decide +kernel), _, rfl, ite_f (fun z => Bool.noConfusion z) ?_⟩
      refine ⟨_, rfl, _, _, .type "int", .type "int", true, rfl, .ty _, .base (.int _), kit_ty (by decide +kernel), _, rfl, ite_t rfl ?_⟩
      exact ⟨_, rfl, _, _, .type "int", .type "int", true, rfl, .ty _, .base (.int _), kit_ty (by decide +kernel), _, rfl, ite_t rfl ⟨_, rfl, _, _, .type "int", .type "bool", false, rfl, .ty _, .base (.int _), kit_ty (by decide +kernel), _, rfl, _, rfl, ite_t rfl ⟨_, rfl, _, rfl, rfl, (by rw [dtrue]; exact hQ _ (Same.refl _))⟩⟩⟩
    | str z =>
      refine ⟨_, rfl, _, _, .type "str", .type "list", false, rfl, .ty _, .base (.str _), kit_ty (by decide +kernel), _, rfl, ite_f (fun z => Bool.noConfusion z) ?_⟩
      refine ⟨_, rfl, _, _, .type "str", .type "dict", false, rfl, .ty _, .base (.str _), kit_ty (by decide +kernel), _, rfl, ite_f (fun z => Bool.noConfusion z) ?_⟩
      refine ⟨_, rfl, rfl, _, rfl, ite_f (by rw [decide_eq_true_eq]; intro z; cases z) ?_⟩
      refine ⟨_, rfl, _, _, .type "str", .type "bool", false, rfl, .ty _, .base (.str _), kit_ty (by decide +kernel), _, rfl, ite_f (fun z => Bool.noConfusion z) ?_⟩
      refine ⟨_, rfl, _, _, .type "str", .type "int", false, rfl, .ty _, .base (.str _), kit_ty (by decide +kernel), _, rfl, ite_f (fun z => Bool.noConfusion z) ?_⟩
      refine ⟨_, rfl, _, _, .type "str", .type "str", true, rfl, .ty _, .base (.str _), kit_ty (by decide +kernel), _, rfl, ite_t rfl ?_⟩
      exact ⟨_, rfl, _, _, .type "str", .type "str", true, rfl, .ty _, .base (.str _), kit_ty (by decide +kernel), _, rfl, ite_t rfl ⟨_, rfl, _, rfl, rfl, (by rw [dtrue]; exact hQ _ (Same.refl _))⟩⟩
    | non =>
      refine ⟨_, rfl, _, _, .type "NoneType", .type "list", false, rfl, .ty _, .base .non, kit_ty (by decide +kernel), _, rfl, ite_f (fun z => Bool.noConfusion z) ?_⟩
      refine ⟨_, rfl, _, _, .type "NoneType", .type "dict", false, rfl, .ty _, .base .non, kit_ty (by decide +kernel), _, rfl, ite_f (fun z => Bool.noConfusion z) ?_⟩
      refine ⟨_, rfl, rfl, _, rfl, ite_t dtrue ?_⟩
      exact ⟨_, rfl, rfl, (by rw [dtrue]; exact hQ _ (Same.refl _))⟩
    | bl b =>
      refine ⟨_, rfl, _, _, .type "bool", .type "list", false, rfl, .ty _, .base (.bl _), kit_ty (by decide +kernel), _, rfl, ite_f (fun z => Bool.noConfusion z) ?_⟩
      refine ⟨_, rfl, _, _, .type "bool", .type "dict", false, rfl, .ty _, .base (.bl _), kit_ty (by decide +kernel), _, rfl, ite_f (fun z => Bool.noConfusion z) ?_⟩
      refine ⟨_, rfl, rfl, _, rfl, ite_f (by rw [decide_eq_true_eq]; intro z; cases z) ?_⟩
      refine ⟨_, rfl, _, _, .type "bool", .type "bool", true, rfl, .ty _, .base (.bl _), kit_ty (by decide +kernel), _, rfl, ite_t rfl ?_⟩
      exact ⟨_, rfl, _, _, .type "bool", .type "bool", true, rfl, .ty _, .base (.bl _), kit_ty (by decide +kernel), _, rfl, ite_t rfl ⟨_, rfl, _, rfl, rfl, (by rw [dtrue]; exact hQ _ (Same.refl _))⟩⟩
    | tup k h n0 n1 =>
      refine ⟨_, rfl, _, _, .type "tuple", .type "list", false, rfl, .ty _, .base (.tup h), kit_ty (by decide +kernel), _, rfl, ite_f (fun z => Bool.noConfusion z) ?_⟩
      refine ⟨_, rfl, _, _, .type "tuple", .type "dict", false, rfl, .ty _, .base (.tup h), kit_ty (by decide +kernel), _, rfl, ite_f (fun z => Bool.noConfusion z) ?_⟩
      refine ⟨_, rfl, rfl, _, rfl, ite_f (by rw [decide_eq_true_eq]; intro z; cases z) ?_⟩
      refine ⟨_, rfl, _, _, .type "tuple", .type "bool", false, rfl, .ty _, .base (.tup h), kit_ty (by decide +kernel), _, rfl, ite_f (fun z => Bool.noConfusion z) ?_⟩
      refine ⟨_, rfl, _, _, .type "tuple", .type "int", false, rfl, .ty _, .base (.tup h), kit_ty (by decide +kernel), _, rfl, ite_f (fun z => Bool.noConfusion z) ?_⟩
      refine ⟨_, rfl, _, _, .type "tuple", .type "str", false, rfl, .ty _, .base (.tup h), kit_ty (by decide +kernel), _, rfl, ite_f (fun z => Bool.noConfusion z) ?_⟩
      refine ⟨_, rfl, _, _, .type "tuple", .type "tuple", true, rfl, .ty _, .base (.tup h), kit_ty (by decide +kernel), _, rfl, ite_t rfl ?_⟩
      refine ⟨_, rfl, _, _, rfl, .inr (.inl (.inl h)), fun l1 h1 => ?_⟩
      refine ⟨_, rfl, _, _, rfl, .inr (.inl (.inl (same_new h1 _ _ h))), fun l2 h2 => ?_⟩
      refine ⟨.list [.int 1, .int k], .list [.int 1, .int k], .lst (SqL.of (same_new h2 _ _ upd_same)) (.cons (.int 1) (.cons (.int k) .nil)), .lst (SqL.of upd_same) (.cons (.int 1) (.cons (.int k) .nil)), shaped_of rfl (by simp [PyData.depth, PyData.depthAll]), shaped_of rfl (by simp [PyData.depth, PyData.depthAll]), ?_⟩
      rw [eqv_t]
      exact hQ _ ((same_new h1).trans (same_new h2))
    | @lst p q k h g n0 n1 m0 m1 ne =>
      refine ⟨_, rfl, _, _, .type "list", .type "list", true, rfl, .ty _, .base (.lst h), kit_ty (by decide +kernel), _, rfl, ite_t rfl ?_⟩
      refine ⟨_, rfl, tyV_lst h, p, _, _, rfl, rfl, h, (by show 2 < sizeLine; decide), ?_⟩
      refine ⟨_, rfl, _, _, .type "list", .type "list", true, rfl, .ty _, .base (.lst upd_same), kit_ty (by decide +kernel), _, rfl, ite_t rfl ?_⟩
      refine ⟨_, rfl, p, _, rfl, .inl (SqL.of upd_same), _, rfl, p, _, rfl, .inl (SqL.of upd_same), rfl, _, rfl, ite_t dtrue ?_⟩
      refine ⟨_, rfl, 1, rfl, p, _, _, .str "more", rfl, rfl, SqL.of upd_same, rfl, rfl, ?_⟩
      refine ⟨_, rfl, tyV_lst upd_same, p, _, _, rfl, rfl, upd_same, rfl, ?_⟩
      have SS : Same H (upd (upd H p (.lst ([V.int k, V.ref q] ++ [V.str "more"]))) p (.lst ([V.int k, V.ref q] ++ [V.str "more"]).dropLast)) := fun b o e => by
        by_cases z : b = p
        · rw [z, upd_same]
          rw [z, h] at e
          exact e
        · rw [upd_ne z, upd_ne z]
          exact e
      generalize upd (upd H p (.lst ([V.int k, V.ref q] ++ [V.str "more"]))) p (.lst ([V.int k, V.ref q] ++ [V.str "more"]).dropLast) = H2 at SS ⊢
      refine ⟨_, rfl, _, rfl, ite_t dtrue ⟨_, rfl, _, _, .type "list", .type "list", true, rfl, .ty _, .base (.lst (SS _ _ h)), kit_ty (by decide +kernel), _, rfl, ite_t rfl ?_⟩⟩
      refine ⟨_, rfl, _, rfl, .list [.int k, .list [.int 1]], .list [.int k, .list [.int 1]], .lst (SqL.of (SS _ _ h)) (.cons (.int k) (.cons (.lst (SqL.of (SS _ _ g)) (.cons (.int 1) .nil)) .nil)), .lst (SqL.of (SS _ _ h)) (.cons (.int k) (.cons (.lst (SqL.of (SS _ _ g)) (.cons (.int 1) .nil)) .nil)), shaped_of rfl (by simp [PyData.depth, PyData.depthAll]), shaped_of rfl (by simp [PyData.depth, PyData.depthAll]), ?_⟩
      rw [eqv_l]
      exact hQ _ SS
    | @dic p k h n0 n1 =>
      refine ⟨_, rfl, _, _, .type "dict", .type "list", false, rfl, .ty _, .base (.dK h), kit_ty (by decide +kernel), _, rfl, ite_f (fun z => Bool.noConfusion z) ?_⟩
      refine ⟨_, rfl, _, _, .type "dict", .type "dict", true, rfl, .ty _, .base (.dK h), kit_ty (by decide +kernel), _, rfl, ite_t rfl ?_⟩
      refine ⟨_, rfl, p, _, rfl, .inl ⟨_, .inr "more", h, rfl, (by show 1 < sizeLine; decide), rfl⟩, ?_⟩
      have e1 : putK [((.inr "a" : Key), V.int k)] (.inr "more") (.int 1) = [(.inr "a", .int k), (.inr "more", .int 1)] := rfl
      rw [e1]
      refine ⟨_, rfl, _, _, .type "dict", .type "dict", true, rfl, .ty _, .base (.dK upd_same), kit_ty (by decide +kernel), _, rfl, ite_t rfl ?_⟩
      refine ⟨_, rfl, p, _, rfl, .inl ⟨_, .inr "more", .inl upd_same, rfl, rfl⟩, _, rfl, ite_t rfl ?_⟩
      refine ⟨_, rfl, p, _, rfl, upd_same, _, rfl, p, _, rfl, upd_same, rfl, ?_⟩
      refine ⟨_, rfl, p, rfl, .inl ⟨_, .inl upd_same⟩, _, .inr "more", _, upd_same, rfl, rfl, ?_⟩
      have e2 : dropK [((.inr "a" : Key), V.int k), (.inr "more", .int 1)] (.inr "more") = [(.inr "a", .int k)] := rfl
      rw [e2]
      have SS : Same H (upd (upd H p (.dK [(.inr "a", .int k), (.inr "more", .int 1)])) p (.dK [(.inr "a", .int k)])) := fun b o e => by
        by_cases z : b = p
        · rw [z, upd_same]
          rw [z, h] at e
          exact e
        · rw [upd_ne z, upd_ne z]
          exact e
      generalize upd (upd H p (.dK [(.inr "a", .int k), (.inr "more", .int 1)])) p (.dK [(.inr "a", .int k)]) = H2 at SS ⊢
      refine ⟨_, rfl, _, rfl, ite_t dtrue ⟨_, rfl, _, _, .type "dict", .type "dict", true, rfl, .ty _, .base (.dK (SS _ _ h)), kit_ty (by decide +kernel), _, rfl, ite_t rfl ?_⟩⟩
      exact ⟨_, rfl, _, rfl, p, p, _, rfl, rfl, SS _ _ h, SS _ _ h, by simp, by simp [flatB], hQ _ SS⟩
end
end L2.E9

set_option Elab.async false
set_option linter.all false
set_option maxRecDepth 100000
set_option maxHeartbeats 600000
/-! k89, part j: raised and caught; the law. -/
namespace L2.E9
open PySem PySem.Spec L2
open PyProof.Rows (envOfC)
section
variable {X : Cx} {C fI : Addr} {f x : Str} {CX : CXT} {k : Nat} {fd : FuncData} {e : Expr} {ta : TE} {p pos : Pos}
/-- what C(e) gives a raise -/
def tMkR (C : Addr) (f : Str) (ta : TE) : L2.St → Hp → XK → Prop := fun σ H Q => ta σ H fun v H1 => ∀ (d : Addr) (H' : Hp), Same H1 H' → H' d = some (.xd [(f, v)]) → Q (.ref C) (some d) H'
theorem run_mkR {pins : List (Addr × Obj)} {σ : L2.St} {H1 : Hp} {s : Shared} {u : Value} {v : V} {Q : XK} (T : ErC X.K C fI f) (F1 : FnOk X.prog X.w X.K X.mg X.base CX k fI fd ["self", f] (spIni X.K C f)) (hr : Room (k + 1) X.A) (hb : L2.Binds X.K fd ["self", f] []) (hx : Passes CX X (fun _ _ _ => False))
    (I1 : L2.Inv X pins σ H1 s) (r : L2.RelV v u) (q1 : ∀ (d : Addr) (H' : Hp), Same H1 H' → H' d = some (.xd [(f, v)]) → Q (.ref C) (some d) H') : wpAny (model X.prog X.w) X.A (call (.ref C) [u]) (L2N.MkP X pins σ Q) X.xe s := by
  obtain ⟨nm, q, N, bs, bm, sn, sub, ab, col, dd, k0, k1, k2, k3, k5, hC, hbm⟩ := T.T.cls
  obtain ⟨hp, g, dr, tk, os⟩ := s
  have hsz : hp.objs.size ≤ hp.objs.size + 1 := Nat.le_succ _
  have hn : H1 (hp.objs.size + 1) = none := I1.hok.fresh hsz
  have kk : ∀ b o, hp.get? b = some o → ((hp.push (PySem.W.kdv_tup [u])).push (PySem.HandSPX.excO C hp.objs.size)).get? b = some o := fun b o e => Heap.get?_push_of_some _ (Heap.get?_push_of_some _ e)
  have hget : ((hp.push (PySem.W.kdv_tup [u])).push (PySem.HandSPX.excO C hp.objs.size)).get? (hp.objs.size + 1) = some (PySem.HandSPX.excO C hp.objs.size) := by heap_get
  have I2 : L2.Inv X pins σ (upd H1 (hp.objs.size + 1) (exo (hp.objs.size + 1) C none)) ⟨(hp.push (PySem.W.kdv_tup [u])).push (PySem.HandSPX.excO C hp.objs.size), g, dr, tk, os⟩ :=
    I1.laid (t' := tk) (a := hp.objs.size + 1) (o := exo (hp.objs.size + 1) C none) (h' := (hp.push (PySem.W.kdv_tup [u])).push (PySem.HandSPX.excO C hp.objs.size)) kk hsz (exo_ok hget)
  have r2 : Vals [V.ref (hp.objs.size + 1), v] [Value.ref (hp.objs.size + 1), u] := .cons rfl (.cons r .nil)
  have hq : spIni X.K C f [V.ref (hp.objs.size + 1), v] (upd H1 (hp.objs.size + 1) (exo (hp.objs.size + 1) C none))
      (fun v' H2 => v' = .non ∧ ∃ d, H2 (hp.objs.size + 1) = some (exo (hp.objs.size + 1) C (some d)) ∧ H2 d = some (exd d [(f, v)]) ∧ H1 d = none ∧ Q (.ref C) (some d) (upd (del H2 (hp.objs.size + 1)) d (.xd [(f, v)]))) (fun _ _ _ => False) :=
    ⟨_, v, rfl, T.T, T.hno, upd_same, fun d hd da => by
      have hd1 : H1 d = none := by
        rw [upd_ne da] at hd
        exact hd
      refine ⟨rfl, d, upd_same, by rw [upd_ne da]; exact upd_same, hd1, q1 d _ (fun b o eb => ?_) upd_same⟩
      rw [upd_ne (ne_of_none eb hd1), del_ne (ne_of_none eb hn), upd_ne (ne_of_none eb hn), upd_ne (ne_of_none eb hd1), upd_ne (ne_of_none eb hn)]
      exact eb⟩
  refine wpAny_call (PySem.HandSPX.call_own F.excBase_ValueError (fun Y => PySem.HandSPX.refsVE_contains Y bm hbm) (I1.kIn _ _ hC) (PySem.W.looks_findIn I1.kIn T.iC) (fun self => PySem.W.bind_fn I1.kIn self T.tI) (by show 1 ≤ sizeLine; rw [sizeLine_eq]; omega)
    (codeAny_mono (F1.run _ X.stack _ _ ⟨[Value.ref (hp.objs.size + 1), u], []⟩ [Value.ref (hp.objs.size + 1), u] _ _ (fun _ _ _ => False) (hr.make C [u] []) (I2.env0.make C [u] []) (hb _ [Value.ref (hp.objs.size + 1), u] I2.kIn rfl) r2 hq) fun r s' hq' => ?_))
  cases r with
  | error er => exact hx pins σ _ _ er s' I2 hq'
  | ok fl' =>
    cases fl' with
    | ret u' =>
      obtain ⟨v', H2, os2, bare2, un2, hok2, rv, ev, d, ea, ed, hd1, q2⟩ := hq'
      subst ev
      obtain ⟨h2, g2, d2, t2, os'⟩ := s'
      obtain ⟨t0, G, J, kG, ge, hoe, na⟩ := mk_end0 (d2 := d2) (t2 := t2) I1 hsz kk un2 hok2 os2 bare2 ea ed hd1
      refine ⟨rv, ⟨hp.objs.size + 1, _, _, ⟨G, g2, d2, t2, os'⟩, _, .ref C, some d, rfl, J, kG, ge, hoe, ⟨rfl, rfl, fun vs hv => ?_⟩, rfl, rfl, na, rfl, bare2, raises_own T.T.exC T.T.tyC, q2⟩⟩
      cases hv
      rfl
    | next => exact False.elim hq'
    | brk => exact False.elim hq'
    | cont => exact False.elim hq'
theorem pmkN (T : ErC X.K C fI f) (F1 : FnOk X.prog X.w X.K X.mg X.base CX k fI fd ["self", f] (spIni X.K C f)) (hr : Room (k + 1) X.A) (hb : L2.Binds X.K fd ["self", f] []) (hx : Passes CX X (fun _ _ _ => False)) (hg : Gl X x) (hm : X.mg x = some (.ref C)) (kC : PySem.W.keepIn X.K (.ref C) = true) (ha : PE X e ta)
    (hdb : (x == ("__debug__" : Str)) = false := by decide) (he : starEach [e] X.env = (false, eval e X.env) :: starEach [] X.env := by rfl) (hpl : (backTo pos (starEach [] X.env)).any (·.1) = false := by rfl) :
    L2N.PMk X (.Call (.Name x p) [e] [] pos) (tMkR C f ta) := by
  intro pins s σ H Q I h
  refine wpAny_Call_Name_kw (ld_glob I hg hm ?_ hdb)
  have hA : PA X [e] (tCons ta tNil) := pa_cons ha pa_nil he
  refine PySem.W.callWith_K (h₀ := X.base) I.ok.mod.kin kC (thn (hA.run pos pins s σ H (fun vs H1 => match vs with | [v] => ∀ (d : Addr) (H' : Hp), Same H1 H' → H' d = some (.xd [(f, v)]) → Q (.ref C) (some d) H' | _ => False) I h) fun us s1 ⟨vs, H1, I1, r1, q1⟩ => ⟨I1.kIn, ?_⟩) he hpl
  match vs, r1, q1 with
  | [v], .cons r .nil, q1 => exact run_mkR T F1 hr hb hx I1 r q1
theorem takes0N : L2N.Takes X (fun _ _ _ _ => False) := fun _ _ x => by
  obtain ⟨_, _, _, _, _, _, _, _, _, _, _, _, _, _, _, _, z⟩ := x
  exact z.elim
end
/-! ### _law_caught -/
abbrev sCt : Stmt := top 32
abbrev nCt : List Str := ["x", "e", "told", "plain"]
theorem scCt : FnScope nCt ["x"] (defScope sCt) := ⟨rfl, rfl, rfl, by decide +kernel, rfl, by decide +kernel, by decide +kernel⟩
def spCt : Sp := fun vs H Q _ => ∃ x : V, vs = [x] ∧ ∀ (p l1 l2 : Addr) (H' : Hp), Same H H' → H' p = some (.tup [.ref l1, .ref l2, .bl true]) → H' l1 = some (.lst [.int 15]) → H' l2 = some (.lst []) → Q (.ref p) H'
abbrev dA (K : PySem.W.Frag) : Addr := He.ga K "DayError"
/-- what the written part says of the classes among one another -/
structure Cs (P : Program) (w : World) (K : PySem.W.Frag) (mg : Str → Option Value) (base : Heap) : Prop where
  er : ∀ i, i < 21 → ErH P w K mg base i
  kit : ∀ i, i < 21 → Kit K (cA K i) (fun j => decide (j = i))
  day : ∀ i, i < 21 → PySem.W.kitOne K (.ref (cA K i)) (.ref (dA K)) = some true
  val : ∀ i, i < 21 → PySem.W.kitOne K (.ref (cA K i)) (.type "ValueError") = some true
  oth : ∀ i, i < 21 → PySem.W.kitAny K (.ref (cA K i)) [.type "KeyError", .type "IndexError", .type "TypeError"] = some false
  g : mg "DayError" = some (.ref (dA K))
  kp : PySem.W.keepIn K (.ref (dA K)) = true
  exc : PySem.W.excIn K (dA K) He.veBase "ValueError.__new__" = true
  ex : ExcC K (dA K)
  kit0 : Kit K (dA K) (fun _ => false)
  val0 : PySem.W.kitOne K (.ref (dA K)) (.type "ValueError") = some true
  exm : PySem.W.exmOne K (.ref (cA K 15)) (.ref (dA K)) = some true
theorem ks_one : ∀ i : Fin 21, ksOf (fun j => decide (j = i.val)) 21 = [(i.val : Int)] := by decide +kernel
theorem ks_one' {i : Nat} (h : i < 21) : ksOf (fun j => decide (j = i)) 21 = [(i : Int)] := ks_one ⟨i, h⟩
theorem bVal : bootBuiltins "ValueError" = some (.type "ValueError") := by decide +kernel
theorem bKey : bootBuiltins "KeyError" = some (.type "KeyError") := by decide +kernel
theorem bIdx : bootBuiltins "IndexError" = some (.type "IndexError") := by decide +kernel
theorem bTyp : bootBuiltins "TypeError" = some (.type "TypeError") := by decide +kernel
section
variable {P : Program} {w : World} {K : PySem.W.Frag} {mg : Str → Option Value} {base : Heap}
theorem ok_ct {f fK : Addr} {fd fdK : FuncData} (F : Fun K "_law_caught" "_law_caught" sCt f fd) (S : Cs P w K mg base) (DK : DefAt K mg "_law_kinds" sKi ["e"] fK fdK) (OK : FnOk P w K mg base CX0 1 fK fdK ["e"] (spKi K)) (OP : FnP P w K mg base CX0 1 fK fdK ["e"] (spKiP K))
    (gI : mg "isinstance" = none) (gV : mg "ValueError" = none) : FnOk P w K mg base CX0 3 f fd ["x"] spCt := by
  refine F.ok scCt (fun vs H Q E h => ?_) (fun cdv A outer s H vs Q E hr h => ?_)
  · obtain ⟨x, rfl, _⟩ := h
    rfl
  have hr1 : Room 1 _ := hr.mono (by decide)
  obtain ⟨fd15, F15, b15, k15⟩ := (S.er 15 (by decide)).ok
  have e15 := S.er 15 (by decide)
  apply Exists.intro
  apply And.intro
  case left =>
    apply pss_cons
    · exact L2N.ps_try_as (i := 1) (tb := fun W => fun _ σ H => tMkR (cA K 15) (fl 15) (tVar 0) σ H fun cls d H' => W cls d σ H')
        (ts := fun a cls d => tAsg (fun σ H Q => tVar 1 σ H fun x H1 => ∃ (C dd : Addr) (b : Nat → Bool), x = .ref a ∧ cls = .ref C ∧ d = some dd ∧ (∃ o, H1 dd = some o) ∧ ExcC K C ∧ Kit K C b ∧ ∀ (p : Addr) (H' : Hp), Same H1 H' → H1 p = none → H' p = some (.lst ((ksOf b 21).map V.int)) → Q (.ref p) H') (gName 2))
        (Wout := fun _ _ _ _ => False) rfl rfl scCt.nd rfl rfl ⟨rfl, by decide, Or.inl S.g⟩ takes0N
        (fun W pn xe tk _ => pss_one (L2N.ps_raise rfl tk (pmkN e15.T F15 hr b15 pass0 rfl e15.g e15.kp (pv 0))))
        (fun a oe cls d pn hz hf => pss_one (ps_set (i := 2) scCt.nd rfl (Or.inl rfl) (PE_imp (pe_callP (p := (a, oe)) (E := E0) OP ⟨(L2H.roomH_of hr1).dp, (L2H.roomH_of hr1).un⟩ (hf.elim fun vs hv => ⟨rfl, vs, hv, hz.2.2 vs hv⟩) List.mem_cons_self rfl DK.g DK.F.kp DK.b pass0 (pa_cons (pv 1) pa_nil)) fun σ H Q q => by
          obtain ⟨v, hv, C, dd, b, rfl, hcls, hd, ho, hX, hK, hQ⟩ := q
          exact ⟨_, hv, C, dd, b, rfl, ho, ⟨hz.1.trans hcls, hz.2.1.trans hd⟩, hf, hX, hK, hQ⟩)))
    apply pss_cons
    · exact ps_set (i := 3) scCt.nd rfl (Or.inl rfl) (pe_mk0 PySem.F.excBase_ValueError S.exc S.g S.kp rfl)
    apply pss_one
    exact ps_ret (pe_tup (pa_cons (pv 2) (pa_cons (pe_call OK hr1 rfl DK.g DK.F.kp DK.b .nil pass0 (pa_cons (pv 3) pa_nil)) (pa_cons (pe_callB call_ek rfl gI bIsi (pa_cons (pv 3) (pa_cons (pe_ty rfl gV bVal) pa_nil))) pa_nil))))
  case right =>
    obtain ⟨x, rfl, hQ⟩ := h
    refine ⟨_, rfl, fun d H1 s1 hd => ?_⟩
    refine ⟨true, S.exm, fun _ a _ => ?_, fun z => Bool.noConfusion z⟩
    refine ⟨_, rfl, cA K 15, d, fun j => decide (j = 15), rfl, rfl, rfl, ⟨_, hd⟩, e15.ex, S.kit 15 (by decide), fun l1 H2 s2 n2 h2 => ?_⟩
    intro b H3 n3 h3 s3
    refine ⟨_, rfl, _, rfl, b, dA K, fun _ => false, rfl, .inr h3, S.ex, S.kit0, fun l2 H4 s4 n4 h4 => ?_⟩
    refine ⟨_, rfl, b, dA K, _, _, true, rfl, .ty _, .inr (s4 _ _ h3), S.ex, S.val0, ?_⟩
    refine ⟨by show 3 ≤ sizeLine; decide, fun p hp => ?_⟩
    have s5 := same_new (o := .tup [.ref l1, .ref l2, .bl true]) hp
    refine hQ p l1 l2 _ (s1.trans (s2.trans (s3.trans (s4.trans s5)))) upd_same ?_ ?_
    · rw [ks_one' (by decide)] at h2
      exact s5 _ _ (s4 _ _ (s3 _ _ h2))
    · have e0 : ksOf (fun _ => false) 21 = [] := by decide +kernel
      rw [e0] at h4
      exact s5 _ _ h4
end
end L2.E9

set_option Elab.async false
set_option linter.all false
set_option maxRecDepth 100000
set_option maxHeartbeats 1000000
/-! k89, part k: the law. -/
namespace L2.E9
open PySem PySem.Spec L2
open PyProof.Rows (envOfC)
abbrev sLw : Stmt := top 33
abbrev nLw : List Str := ["script", "state", "k", "at", "one", "two", "made", "kept", "other", "others"]
theorem scLw : FnScope nLw ["script"] (defScope sLw) := ⟨rfl, rfl, rfl, by decide +kernel, rfl, by decide +kernel, by decide +kernel⟩
def spLw (K : PySem.W.Frag) : Sp := fun vs H Q _ => ∃ (a : Addr) (ns : List Int), vs = [.ref a] ∧ SqL K H a (ns.map V.int) ∧ ns.length ≤ 63 ∧ ∀ H', Q (.bl true) H'
/-- the defs of the law, each with its promise -/
structure Ds (P : Program) (w : World) (K : PySem.W.Frag) (mg : Str → Option Value) (base : Heap) : Prop where
  start : ∃ f fd, DefAt K mg "_law_start" sStart ["script"] f fd ∧ FnOk P w K mg base CX0 1 f fd ["script"] (spStart K)
  pick : ∃ f fd, DefAt K mg "_law_pick" sPick ["state", "many"] f fd ∧ FnOk P w K mg base CX0 1 f fd ["state", "many"] spPick
  obj : ∃ f fd, DefAt K mg "_law_object" sObj ["state"] f fd ∧ FnOk P w K mg base CX0 3 f fd ["state"] spObj
  made : ∃ f fd, DefAt K mg "_law_made_at" sMd ["at", "x"] f fd ∧ FnOk P w K mg base CX0 4 f fd ["at", "x"] (spMd K 0 21)
  kinds : ∃ f fd, DefAt K mg "_law_kinds" sKi ["e"] f fd ∧ FnOk P w K mg base CX0 1 f fd ["e"] (spKi K)
  very : ∃ f fd, DefAt K mg "_law_very" sVy ["found", "due"] f fd ∧ FnOk P w K mg base CX0 1 f fd ["found", "due"] spVy
  caught : ∃ f fd, DefAt K mg "_law_caught" sCt ["x"] f fd ∧ FnOk P w K mg base CX0 3 f fd ["x"] spCt
structure Gx (mg : Str → Option Value) : Prop extends Gs mg where
  rng : mg "range" = none
  val : mg "ValueError" = none
  key : mg "KeyError" = none
  idx : mg "IndexError" = none
  typ : mg "TypeError" = none
theorem eqv_e : PyData.eqv (.tuple [.list [.int 15], .list [], .bool true]) (.tuple [.list [.int 15], .list [], .bool true]) = true := by simp [PyData.eqv, PyData.eqvAll]
theorem eqv_i (i : Int) : PyData.eqv (.list [.int i]) (.list [.int i]) = true := by simp [PyData.eqv, PyData.eqvAll]
section
variable {P : Program} {w : World} {K : PySem.W.Frag} {mg : Str → Option Value} {base : Heap}
theorem ok_lw {f : Addr} {fd : FuncData} (F : Fun K "law" "law" sLw f fd) (S : Cs P w K mg base) (D : Ds P w K mg base) (G : Gx mg) : FnOk P w K mg base CX0 5 f fd ["script"] (spLw K) := by
  obtain ⟨fS, fdS, DS, OS⟩ := D.start
  obtain ⟨fP, fdP, DP, OP⟩ := D.pick
  obtain ⟨fO, fdO, DO, OO⟩ := D.obj
  obtain ⟨fM, fdM, DM, OM⟩ := D.made
  obtain ⟨fK, fdK, DK, OK⟩ := D.kinds
  obtain ⟨fV, fdV, DV, OV⟩ := D.very
  obtain ⟨fC, fdC, DC, OC⟩ := D.caught
  refine F.ok scLw (fun vs H Q E h => ?_) (fun cdv A outer s H vs Q E hr h => ?_)
  · obtain ⟨a, ns, rfl, _⟩ := h
    rfl
  have hr1 : Room 1 _ := hr.mono (by decide)
  have hr3 : Room 3 _ := hr.mono (by decide)
  apply Exists.intro
  apply And.intro
  case left =>
    apply pss_cons
    · exact ps_set (i := 1) scLw.nd rfl (Or.inl rfl) (pe_call OS hr1 rfl DS.g DS.F.kp DS.b .nil pass0 (pa_cons (pv 0) pa_nil))
    apply pss_cons
    · apply ps_for
      · exact PassesOwn.never
      · rfl
      · exact pi_range1 rfl G.rng (pa_cons pe_int pa_nil)
      · exact pg_name (i := 2) scLw.nd rfl (Or.inl rfl)
      apply pss_cons
      · exact ps_set (i := 3) scLw.nd rfl (Or.inl rfl) (pe_ifExp (pt_cmpR op_lt (pv 2) pe_int (nob _)) (pe_op op_mod (pe_callTy call_int1 rfl G.int bInt (pa_cons (pe_op op_add (pv 2) (pe_call OP hr1 rfl DP.g DP.F.kp DP.b .nil pass0 (pa_cons (pv 1) (pa_cons pe_int pa_nil)))) pa_nil)) pe_int) (pe_op op_sub (pv 2) pe_int))
      apply pss_cons
      · exact ps_par (i := 4) (j := 5) rfl scLw.nd rfl rfl (by decide) rfl rfl (pa_cons (pe_call OO hr3 rfl DO.g DO.F.kp DO.b .nil pass0 (pa_cons (pv 1) pa_nil)) (pa_cons (pe_call OO hr3 rfl DO.g DO.F.kp DO.b .nil pass0 (pa_cons (pv 1) pa_nil)) pa_nil)) (by rfl)
      apply pss_cons
      · exact ps_asg (pe_call OM hr rfl DM.g DM.F.kp DM.b .nil pass0 (pa_cons (pv 3) (pa_cons (pv 4) pa_nil))) (pg_tup rfl (pgs_cons (pg_name (i := 6) scLw.nd rfl (Or.inl rfl)) (pgs_cons (pg_name (i := 7) scLw.nd rfl (Or.inl rfl)) pgs_nil)))
      apply pss_cons
      · exact ps_asg (pe_call OM hr rfl DM.g DM.F.kp DM.b .nil pass0 (pa_cons (pv 3) (pa_cons (pv 5) pa_nil))) (pg_tup rfl (pgs_cons (pg_name (i := 8) scLw.nd rfl (Or.inl rfl)) (pgs_cons (pg_name (i := 9) scLw.nd rfl (Or.inl rfl)) pgs_nil)))
      apply pss_cons
      · exact ps_if (PW.pt (pw_or (pt_not (pt_val (pe_callB call_ek rfl G.isi bIsi (pa_cons (pv 6) (pa_cons (pe_gref rfl S.g) pa_nil))))) (pw_or (pt_not (pt_val (pe_callB call_ek rfl G.isi bIsi (pa_cons (pv 6) (pa_cons (pe_ty rfl G.val bVal) pa_nil)))))
          (pw_or1 (pt_cmpR (op_neD hr.units) (pe_call OK hr1 rfl DK.g DK.F.kp DK.b .nil pass0 (pa_cons (pv 6) pa_nil)) (pe_lst (pa_cons (pv 3) pa_nil)) (nob _)))))) (pss_one (ps_ret pe_bl)) pss_nil
      apply pss_cons
      · exact ps_if (PW.pt (pw_or (pt_val (pe_callB call_ekT rfl G.isi bIsi (pa_cons (pv 6) (pa_cons (pe_tup (pa_cons (pe_ty rfl G.key bKey) (pa_cons (pe_ty rfl G.idx bIdx) (pa_cons (pe_ty rfl G.typ bTyp) pa_nil)))) pa_nil))))
          (pw_or1 (pt_val (pe_callB call_ekT rfl G.isi bIsi (pa_cons (pv 8) (pa_cons (pe_tup (pa_cons (pe_ty rfl G.key bKey) (pa_cons (pe_ty rfl G.idx bIdx) (pa_cons (pe_ty rfl G.typ bTyp) pa_nil)))) pa_nil))))))) (pss_one (ps_ret pe_bl)) pss_nil
      apply pss_one
      exact ps_if (PW.pt (pw_or (pt_not (pt_val (pe_call OV hr1 rfl DV.g DV.F.kp DV.b .nil pass0 (pa_cons (pv 7) (pa_cons (pv 4) pa_nil))))) (pw_or1 (pt_not (pt_val (pe_call OV hr1 rfl DV.g DV.F.kp DV.b .nil pass0 (pa_cons (pv 9) (pa_cons (pv 5) pa_nil)))))))) (pss_one (ps_ret pe_bl)) pss_nil
      · exact fun _ => rfl
    apply pss_one
    exact ps_ret (pe_cmpR (op_eqD hr.units) (pe_call OC hr3 rfl DC.g DC.F.kp DC.b .nil pass0 (pa_cons (pe_call OO hr3 rfl DO.g DO.F.kp DO.b .nil pass0 (pa_cons (pv 1) pa_nil)) pa_nil)) (pe_tup (pa_cons (pe_lst (pa_cons pe_int pa_nil)) (pa_cons (pe_lst pa_nil) (pa_cons pe_bl pa_nil)))) (nob _))
  case right =>
    obtain ⟨a, ns, rfl, hS, hl, hQ⟩ := h
    refine ⟨_, rfl, a, ns, rfl, hS, hl, fun a0 a1 H0 hS0 => ?_⟩
    refine ⟨42, rfl, by decide, by decide, ?_⟩
    refine for_range (fun i σ H' => ∃ x2 x3 x4 x5 x6 x7 x8 x9 : Option V, σ = [some (.ref a), some (.ref a0), x2, x3, x4, x5, x6, x7, x8, x9] ∧ StAt a0 a1 H' (7 * i)) ⟨none, none, none, none, none, none, none, none, rfl, hS0⟩ ?_ ?_
    · rintro i σ H1 hi ⟨x2, x3, x4, x5, x6, x7, x8, x9, rfl, hS1⟩
      have hi' : i < 42 := hi
      -- the place
      have go : ∀ (Q : VK), (∀ (v : Int) (H2 : Hp), 0 ≤ v → v < 21 → StAt a0 a1 H2 (7 * i + 1) → Q (.int v) H2) → tIf (tTest (tOp (rI0 fun i j => V.bl (decide (i < j))) (tVar 2) (tC (.int 21)))) (tOp rMd (tCB rInt1 (tCons (tOp rPls (tVar 2) (tCall spPick [] E0 (tCons (tVar 1) (tCons (tC (.int 21)) tNil)))) tNil)) (tC (.int 21)))
          (tOp (rI0 fun i j => .int (i - j)) (tVar 2) (tC (.int 21))) [some (.ref a), some (.ref a0), some (.int (0 + (i : Int))), x3, x4, x5, x6, x7, x8, x9] H1 Q := fun Q hq => by
        by_cases hk : 0 + (i : Int) < 21
        · refine ⟨_, rfl, _, _, rfl, rfl, _, rfl, ite_t (decide_eq_true hk) ?_⟩
          refine ⟨_, rfl, _, rfl, a0, a1, 21, 7 * i, rfl, by decide, by decide, by omega, hS1, fun d H2 d0 d1 hS2 hK2 => ?_⟩
          exact ⟨_, _, rfl, rfl, .inl ⟨_, rfl, _, _, rfl, rfl, (by decide : (0 : Int) < 21), hq _ _ (Int.emod_nonneg _ (by decide)) (Int.emod_lt_of_pos _ (by decide)) hS2⟩⟩
        · refine ⟨_, rfl, _, _, rfl, rfl, _, rfl, ite_f (by rw [decide_eq_true_eq]; exact hk) ?_⟩
          exact ⟨_, rfl, _, _, rfl, rfl, hq _ _ (by omega) (by omega) (hS1.mono (by omega))⟩
      refine go _ fun v H2 v0 v1 hS2 => ?_
      obtain ⟨n, rfl⟩ : ∃ n : Nat, v = (n : Int) := ⟨v.toNat, by omega⟩
      have hn : n < 21 := by omega
      -- two objects
      refine ⟨_, rfl, a0, a1, 7 * i + 1, rfl, by omega, hS2, fun w1 H3 hS3 hK3 hO1 => ?_⟩
      refine ⟨_, rfl, a0, a1, 7 * i + 1 + 3, rfl, by omega, hS3, fun w2 H4 hS4 hK4 hO2 => ?_⟩
      refine ⟨w1, w2, rfl, ?_⟩
      have hO1 := hO1.kp hK4
      -- two errors
      refine ⟨_, rfl, _, rfl, n, w1, rfl, v0, v1, fun p1 e1 H5 s5 n5 h5 E5 => ?_⟩
      refine ⟨p1, _, rfl, .inl (.inl h5), rfl, _, _, rfl, _, _, rfl, rfl, ?_⟩
      refine ⟨_, rfl, _, rfl, n, w2, rfl, v0, v1, fun p2 e2 H6 s6 n6 h6 E6 => ?_⟩
      refine ⟨p2, _, rfl, .inl (.inl h6), rfl, _, _, rfl, _, _, rfl, rfl, ?_⟩
      have k1 : EkAt H6 e1 (cA K n) := (E5.same s6).ek
      have k2 : EkAt H6 e2 (cA K n) := E6.ek
      have exn := (S.er n hn).ex
      have t6 := s5.trans s6
      -- what it is
      refine ⟨_, rfl, e1, cA K n, _, _, true, rfl, .own _, k1, exn, S.day n hn, _, rfl, ite_f (by decide) ?_⟩
      refine ⟨_, rfl, e1, cA K n, _, _, true, rfl, .ty _, k1, exn, S.val n hn, _, rfl, ite_f (by decide) ?_⟩
      refine ⟨_, rfl, e1, cA K n, _, rfl, k1, exn, S.kit n hn, fun p3 H7 s7 n7 h7 => ?_⟩
      refine ⟨_, rfl, by show 1 ≤ sizeLine; decide, fun p4 n8 => ?_⟩
      have s8 := same_new (o := .lst [V.int (n : Int)]) n8
      rw [ks_one' hn] at h7
      refine ⟨.list [.int n], .list [.int n], .lst (SqL.of (s8 _ _ h7)) (.cons (.int _) .nil), .lst (SqL.of upd_same) (.cons (.int _) .nil), shaped_of rfl (by simp [PyData.depth, PyData.depthAll]), shaped_of rfl (by simp [PyData.depth, PyData.depthAll]), _, rfl, ite_f (by rw [eqv_i]; decide) ?_⟩
      have t8 := (t6.trans s7).trans s8
      have k1 := (k1.same s7).same s8
      have k2 := (k2.same s7).same s8
      generalize upd H7 p4 (.lst [V.int (n : Int)]) = H8 at t8 k1 k2 ⊢
      -- what it is not
      refine ⟨_, rfl, by show 3 ≤ sizeLine; decide, fun p5 n9 => ?_⟩
      have s9 := same_new (o := .tup [V.ty "KeyError", .ty "IndexError", .ty "TypeError"]) n9
      refine ⟨e1, cA K n, p5, _, _, false, rfl, upd_same, .cons (.ty _) (.cons (.ty _) (.cons (.ty _) .nil)), k1.same s9, exn, S.oth n hn, _, rfl, ite_f (by decide) ?_⟩
      have t9 := t8.trans s9
      have k2 := k2.same s9
      generalize upd H8 p5 (.tup [V.ty "KeyError", .ty "IndexError", .ty "TypeError"]) = H9 at t9 k2 ⊢
      refine ⟨_, rfl, by show 3 ≤ sizeLine; decide, fun p6 n10 => ?_⟩
      have s10 := same_new (o := .tup [V.ty "KeyError", .ty "IndexError", .ty "TypeError"]) n10
      refine ⟨e2, cA K n, p6, _, _, false, rfl, upd_same, .cons (.ty _) (.cons (.ty _) (.cons (.ty _) .nil)), k2.same s10, exn, S.oth n hn, _, rfl, ite_f (by decide) ?_⟩
      have t10 := t9.trans s10
      generalize upd H9 p6 (.tup [V.ty "KeyError", .ty "IndexError", .ty "TypeError"]) = H10 at t10 ⊢
      -- it is the very object
      refine ⟨_, rfl, _, rfl, a0, a1, w1, rfl, hO1.kp (Kp.same t10), fun H11 s11 => ?_⟩
      refine ⟨_, rfl, ite_f (by decide) ?_⟩
      refine ⟨_, rfl, _, rfl, a0, a1, w2, rfl, hO2.kp (Kp.same (t10.trans s11)), fun H12 s12 => ?_⟩
      refine ⟨_, rfl, ite_f (by decide) ?_⟩
      exact ⟨_, _, _, _, _, _, _, _, rfl, (hS4.same ((t10.trans s11).trans s12)).mono (by omega)⟩
    · rintro σ H1 ⟨x2, x3, x4, x5, x6, x7, x8, x9, rfl, hS1⟩
      refine ⟨_, rfl, a0, a1, 7 * (42 : Int).toNat, rfl, by decide, hS1, fun v H2 hS2 hK2 hO2 => ?_⟩
      refine ⟨v, rfl, fun p l1 l2 H3 s3 h3 g1 g2 => ?_⟩
      refine ⟨by show 1 ≤ sizeLine; decide, fun q1 n1 => ?_⟩
      refine ⟨by show 0 ≤ sizeLine; decide, fun q2 n2 => ?_⟩
      refine ⟨by show 3 ≤ sizeLine; decide, fun q3 n3 => ?_⟩
      have t1 := same_new (o := .lst [V.int 15]) n1
      have t2 := same_new (o := .lst []) n2
      have t3 := same_new (o := .tup [V.ref q1, .ref q2, .bl true]) n3
      have t := (t1.trans t2).trans t3
      refine ⟨.tuple [.list [.int 15], .list [], .bool true], .tuple [.list [.int 15], .list [], .bool true], .tup (.inl (.inl (t _ _ h3))) (.cons (.lst (SqL.of (t _ _ g1)) (.cons (.int 15) .nil)) (.cons (.lst (SqL.of (t _ _ g2)) .nil) (.cons (.bl true) .nil))),
        .tup (.inl (.inl upd_same)) (.cons (.lst (SqL.of (t3 _ _ (t2 _ _ upd_same))) (.cons (.int 15) .nil)) (.cons (.lst (SqL.of (t3 _ _ upd_same)) .nil) (.cons (.bl true) .nil))), shaped_of rfl (by simp [PyData.depth, PyData.depthAll]), shaped_of rfl (by simp [PyData.depth, PyData.depthAll]), ?_⟩
      rw [eqv_e]
      exact hQ _
end
end L2.E9

set_option Elab.async false
set_option linter.all false
set_option maxRecDepth 100000
set_option maxHeartbeats 0
/-! k89, part l: what the top leaves. -/
namespace L2.E9
open PySem PySem.Spec L2
open PyProof.Rows (envOfC)
/-! ### the facts -/
def oexB (K : PySem.W.Frag) (C : Addr) : Bool := (match K.lookup C with
  | some ⟨.type "type", _, .cls cd, sl⟩ => (match cd.mro, sl.toList with
    | .ref C' :: bm, [_, _, _, _, some (.builtin n), _] => C' == C && n == "ValueError.__new__" && !cd.hasDel && cd.hasDict && PySem.HandSPX.refsVE bm
    | _, _ => false)
  | _ => false) && (He.eqO (PySem.W.findIn K (.ref C) "__setattr__") (some (some (.builtin "object.__setattr__"))) && (decide (PySem.W.subIn K (.ref C) (.type "BaseException") = some true) && (decide (PySem.W.typeIn K (.ref C) = some (.type "type")) && PySem.W.keepIn K (.ref C))))
theorem oexB_ok {K : PySem.W.Frag} {C : Addr} (h : oexB K C = true) : OexC K C := by
  obtain ⟨h1, h⟩ := He.ba h
  obtain ⟨h2, h⟩ := He.ba h
  obtain ⟨h3, h⟩ := He.ba h
  obtain ⟨h4, h5⟩ := He.ba h
  refine ⟨?_, He.eqO_ok h2, of_decide_eq_true h3, of_decide_eq_true h4, h5⟩
  split at h1
  · rename_i dd cd sl ho
    split at h1
    · rename_i C' bm k0 k1 k2 k3 n k5 hm hs
      simp only [Bool.and_eq_true, beq_iff_eq, Bool.not_eq_true'] at h1
      obtain ⟨⟨⟨⟨rfl, rfl⟩, hdel⟩, hhd⟩, hbm⟩ := h1
      obtain ⟨nm, bs, mro, ns, qn, hd, sn, sub, ab, col, del⟩ := cd
      dsimp only at hm hdel hhd
      subst hm hdel hhd
      have hsl : sl = #[k0, k1, k2, k3, some (.builtin "ValueError.__new__"), k5] := by
        obtain ⟨l⟩ := sl
        simp only at hs
        rw [hs]
      subst hsl
      exact ⟨nm, qn, ns, bs, bm, sn, sub, ab, col, dd, k0, k1, k2, k3, k5, ho, hbm⟩
    · cases h1
  · cases h1
def excB (K : PySem.W.Frag) (D : Addr) : Bool := He.eqO (PySem.W.findIn K (.ref D) "__getattribute__") (some (some (.builtin "BaseException.__getattribute__"))) && (He.eqO (PySem.W.findIn K (.ref D) "__getattr__") (some none) && (decide (PySem.W.subIn K (.ref D) (.type "BaseException") = some true) && (PySem.W.hasDictIn K D &&
  (He.eqO (PySem.W.findIn K (.ref D) "__class__") (some (some (.builtin "object.__class__"))) && (He.eqO (PySem.W.specialIn K (.builtin "object.__class__") "__get__") (some (some (.builtin "getset_descriptor.__get__"))) && (decide (PySem.W.takesIn K (.builtin "object.__class__") = some true) && decide (PySem.W.mroIn K D (.type "object") = some true)))))))
theorem excB_ok {K : PySem.W.Frag} {D : Addr} (h : excB K D = true) : ExcC K D := by
  obtain ⟨h1, h⟩ := He.ba h
  obtain ⟨h2, h⟩ := He.ba h
  obtain ⟨h3, h⟩ := He.ba h
  obtain ⟨h4, h⟩ := He.ba h
  obtain ⟨h5, h⟩ := He.ba h
  obtain ⟨h6, h⟩ := He.ba h
  obtain ⟨h7, h8⟩ := He.ba h
  exact ⟨He.eqO_ok h1, He.eqO_ok h2, of_decide_eq_true h3, h4, He.eqO_ok h5, He.eqO_ok h6, of_decide_eq_true h7, of_decide_eq_true h8⟩
def kitB21 (K : PySem.W.Frag) (C : Addr) (b : Nat → Bool) : Bool := (List.range 21).all fun j => decide (PySem.W.kitOne K (.ref C) (.ref (cA K j)) = some (b j))
theorem kitB21_ok {K : PySem.W.Frag} {C : Addr} {b : Nat → Bool} (h : kitB21 K C b = true) : Kit K C b := fun j hj => of_decide_eq_true (List.all_eq_true.mp h j (List.mem_range.mpr hj))
def erB (K : PySem.W.Frag) (i : Nat) : Bool := oexB K (cA K i) && (He.eqO (PySem.W.findIn K (.ref (cA K i)) (fl i)) (some none) && (He.eqO (PySem.W.findIn K (.ref (cA K i)) "__init__") (some (some (.ref (iA K i)))) && (decide (PySem.W.typeIn K (.ref (iA K i)) = some (.type "function")) && (xfB K (cA K i) && (excB K (cA K i) &&
  (kitB21 K (cA K i) (fun j => decide (j = i)) && (decide (PySem.W.kitOne K (.ref (cA K i)) (.ref (dA K)) = some true) && (decide (PySem.W.kitOne K (.ref (cA K i)) (.type "ValueError") = some true) && decide (PySem.W.kitAny K (.ref (cA K i)) [.type "KeyError", .type "IndexError", .type "TypeError"] = some false)))))))))
structure ErF (K : PySem.W.Frag) (i : Nat) : Prop where
  oex : OexC K (cA K i)
  hno : PySem.W.findIn K (.ref (cA K i)) (fl i) = some none
  iC : PySem.W.findIn K (.ref (cA K i)) "__init__" = some (some (.ref (iA K i)))
  tI : PySem.W.typeIn K (.ref (iA K i)) = some (.type "function")
  xf : XfC K (cA K i)
  ex : ExcC K (cA K i)
  kit : Kit K (cA K i) (fun j => decide (j = i))
  day : PySem.W.kitOne K (.ref (cA K i)) (.ref (dA K)) = some true
  val : PySem.W.kitOne K (.ref (cA K i)) (.type "ValueError") = some true
  oth : PySem.W.kitAny K (.ref (cA K i)) [.type "KeyError", .type "IndexError", .type "TypeError"] = some false
theorem erB_ok {K : PySem.W.Frag} {i : Nat} (h : erB K i = true) : ErF K i := by
  obtain ⟨h1, h⟩ := He.ba h
  obtain ⟨h2, h⟩ := He.ba h
  obtain ⟨h3, h⟩ := He.ba h
  obtain ⟨h4, h⟩ := He.ba h
  obtain ⟨h5, h⟩ := He.ba h
  obtain ⟨h6, h⟩ := He.ba h
  obtain ⟨h7, h⟩ := He.ba h
  obtain ⟨h8, h⟩ := He.ba h
  obtain ⟨h9, h10⟩ := He.ba h
  exact ⟨oexB_ok h1, He.eqO_ok h2, He.eqO_ok h3, of_decide_eq_true h4, xfB_ok h5, excB_ok h6, kitB21_ok h7, of_decide_eq_true h8, of_decide_eq_true h9, of_decide_eq_true h10⟩
def ex9 (K : PySem.W.Frag) : Bool := ((List.range 21).all fun i => erB K i) && (excB K (dA K) && (kitB21 K (dA K) (fun _ => false) && decide (PySem.W.kitOne K (.ref (dA K)) (.type "ValueError") = some true)))
abbrev inS (i : Nat) : Stmt := inClass (top (i + 2)) 0

def dI0 : He.DefD := ⟨("BadClosing", some "__init__"), "__init__", "BadClosing.__init__", defArgs (inS 0), defBody (inS 0), defScope (inS 0), [], []⟩
def dI1 : He.DefD := ⟨("BadOwn", some "__init__"), "__init__", "BadOwn.__init__", defArgs (inS 1), defBody (inS 1), defScope (inS 1), [], []⟩
def dI2 : He.DefD := ⟨("BadNews", some "__init__"), "__init__", "BadNews.__init__", defArgs (inS 2), defBody (inS 2), defScope (inS 2), [], []⟩
def dI3 : He.DefD := ⟨("BadRules", some "__init__"), "__init__", "BadRules.__init__", defArgs (inS 3), defBody (inS 3), defScope (inS 3), [], []⟩
def dI4 : He.DefD := ⟨("BadDay", some "__init__"), "__init__", "BadDay.__init__", defArgs (inS 4), defBody (inS 4), defScope (inS 4), [], []⟩
def dI5 : He.DefD := ⟨("BadEvent", some "__init__"), "__init__", "BadEvent.__init__", defArgs (inS 5), defBody (inS 5), defScope (inS 5), [], []⟩
def dI6 : He.DefD := ⟨("BadNames", some "__init__"), "__init__", "BadNames.__init__", defArgs (inS 6), defBody (inS 6), defScope (inS 6), [], []⟩
def dI7 : He.DefD := ⟨("BadLengths", some "__init__"), "__init__", "BadLengths.__init__", defArgs (inS 7), defBody (inS 7), defScope (inS 7), [], []⟩
def dI8 : He.DefD := ⟨("BadBook", some "__init__"), "__init__", "BadBook.__init__", defArgs (inS 8), defBody (inS 8), defScope (inS 8), [], []⟩
def dI9 : He.DefD := ⟨("BadTimes", some "__init__"), "__init__", "BadTimes.__init__", defArgs (inS 9), defBody (inS 9), defScope (inS 9), [], []⟩
def dI10 : He.DefD := ⟨("BadNow", some "__init__"), "__init__", "BadNow.__init__", defArgs (inS 10), defBody (inS 10), defScope (inS 10), [], []⟩
def dI11 : He.DefD := ⟨("BadKnown", some "__init__"), "__init__", "BadKnown.__init__", defArgs (inS 11), defBody (inS 11), defScope (inS 11), [], []⟩
def dI12 : He.DefD := ⟨("BadLine", some "__init__"), "__init__", "BadLine.__init__", defArgs (inS 12), defBody (inS 12), defScope (inS 12), [], []⟩
def dI13 : He.DefD := ⟨("BadTable", some "__init__"), "__init__", "BadTable.__init__", defArgs (inS 13), defBody (inS 13), defScope (inS 13), [], []⟩
def dI14 : He.DefD := ⟨("BadLines", some "__init__"), "__init__", "BadLines.__init__", defArgs (inS 14), defBody (inS 14), defScope (inS 14), [], []⟩
def dI15 : He.DefD := ⟨("BadOther", some "__init__"), "__init__", "BadOther.__init__", defArgs (inS 15), defBody (inS 15), defScope (inS 15), [], []⟩
def dI16 : He.DefD := ⟨("BadDayText", some "__init__"), "__init__", "BadDayText.__init__", defArgs (inS 16), defBody (inS 16), defScope (inS 16), [], []⟩
def dI17 : He.DefD := ⟨("BadBookText", some "__init__"), "__init__", "BadBookText.__init__", defArgs (inS 17), defBody (inS 17), defScope (inS 17), [], []⟩
def dI18 : He.DefD := ⟨("BadAnswer", some "__init__"), "__init__", "BadAnswer.__init__", defArgs (inS 18), defBody (inS 18), defScope (inS 18), [], []⟩
def dI19 : He.DefD := ⟨("BadAnswerText", some "__init__"), "__init__", "BadAnswerText.__init__", defArgs (inS 19), defBody (inS 19), defScope (inS 19), [], []⟩
def dI20 : He.DefD := ⟨("BadWholeText", some "__init__"), "__init__", "BadWholeText.__init__", defArgs (inS 20), defBody (inS 20), defScope (inS 20), [], []⟩
def dF0 : He.DefD := ⟨("_law_start", none), "_law_start", "_law_start", defArgs (top 24), defBody (top 24), defScope (top 24), [], []⟩
def dF1 : He.DefD := ⟨("_law_pick", none), "_law_pick", "_law_pick", defArgs (top 25), defBody (top 25), defScope (top 25), [], []⟩
def dF2 : He.DefD := ⟨("_law_between", none), "_law_between", "_law_between", defArgs (top 26), defBody (top 26), defScope (top 26), [], []⟩
def dF3 : He.DefD := ⟨("_law_kinds", none), "_law_kinds", "_law_kinds", defArgs (top 27), defBody (top 27), defScope (top 27), [], []⟩
def dF4 : He.DefD := ⟨("_law_first_made", none), "_law_first_made", "_law_first_made", defArgs (top 28), defBody (top 28), defScope (top 28), [], []⟩
def dF5 : He.DefD := ⟨("_law_made_at", none), "_law_made_at", "_law_made_at", defArgs (top 29), defBody (top 29), defScope (top 29), [], []⟩
def dF6 : He.DefD := ⟨("_law_object", none), "_law_object", "_law_object", defArgs (top 30), defBody (top 30), defScope (top 30), [], []⟩
def dF7 : He.DefD := ⟨("_law_very", none), "_law_very", "_law_very", defArgs (top 31), defBody (top 31), defScope (top 31), [], []⟩
def dF8 : He.DefD := ⟨("_law_caught", none), "_law_caught", "_law_caught", defArgs (top 32), defBody (top 32), defScope (top 32), [], []⟩
def dF9 : He.DefD := ⟨("law", none), "law", "law", defArgs (top 33), defBody (top 33), defScope (top 33), [], []⟩
def fn9 : List He.DefD := [dF0, dF1, dF2, dF3, dF4, dF5, dF6, dF7, dF8, dF9, dI0, dI1, dI2, dI3, dI4, dI5, dI6, dI7, dI8, dI9, dI10, dI11, dI12, dI13, dI14, dI15, dI16, dI17, dI18, dI19, dI20]
def fa9a : List He.Fa := [.glo "_law_start", .glo "_law_pick", .glo "_law_between", .glo "_law_kinds", .glo "_law_first_made", .glo "_law_made_at", .glo "_law_object", .glo "_law_very", .glo "_law_caught", .glo "law", .glo "BadClosing", .glo "BadOwn", .glo "BadNews", .glo "BadRules", .glo "BadDay", .glo "BadEvent", .glo "BadNames", .glo "BadLengths", .glo "BadBook", .glo "BadTimes", .glo "BadNow", .glo "BadKnown", .glo "BadLine", .glo "BadTable", .glo "BadLines", .glo "BadOther", .glo "BadDayText", .glo "BadBookText", .glo "BadAnswer", .glo "BadAnswerText", .glo "BadWholeText", .glo "DayError"]
def fa9b : List He.Fa := [.free "isinstance", .free "list", .free "dict", .free "bool", .free "int", .free "str", .free "tuple", .free "len", .free "range", .free "ValueError", .free "KeyError", .free "IndexError", .free "TypeError", .free "abs", .free "max", .keep "BadClosing", .keep "BadOwn", .keep "BadNews", .keep "BadRules", .keep "BadDay", .keep "BadEvent", .keep "BadNames", .keep "BadLengths", .keep "BadBook", .keep "BadTimes", .keep "BadNow", .keep "BadKnown", .keep "BadLine", .keep "BadTable", .keep "BadLines", .keep "BadOther", .keep "BadDayText", .keep "BadBookText", .keep "BadAnswer", .keep "BadAnswerText", .keep "BadWholeText", .exc "DayError", .exm "BadOther" "DayError" true]
def fa9 : List He.Fa := fa9a ++ fa9b
abbrev R9 : PySem.W.OpenRow := PySem.W.OpenLaw.row PySem.Challenge.rw_dayled_k89_errors_of_days
abbrev hk9 : PySem.W.Hook := He.hookX 5 fa9 fn9 [] [] ex9
def ob9 (s : PySem.W.SharedT) : He.AlX := He.obsX 5 fa9 fn9 [] [] ex9 (HandSHeadRun.getT s)
theorem ob9_eq (s : PySem.W.SharedT) : ob9 s = hk9.obs s.abs := He.obsX_eq (HandSHeadRun.getT_eq s)
def lo9 : List Str := ["DayError", "BadClosing", "BadOwn", "BadNews", "BadRules", "BadDay", "BadEvent", "BadNames", "BadLengths", "BadBook", "BadTimes", "BadNow", "BadKnown", "BadLine", "BadTable", "BadLines", "BadOther", "BadDayText", "BadBookText", "BadAnswer", "BadAnswerText", "BadWholeText", "_law_start", "_law_pick", "_law_between", "_law_kinds", "_law_first_made", "_law_made_at", "_law_object", "_law_very", "_law_caught"]
set_option maxRecDepth 1000000 in
theorem run9 (w : World) : HandSHeadRun.RunEq R9 (PySem.W.view R9.prog [33]) hk9 ob9 20000 lo9 w := by
  intro os
  kernel_rfl
end L2.E9

set_option Elab.async false
set_option linter.all false
set_option maxRecDepth 100000
set_option maxHeartbeats 1000000
/-! k89, part m: the end. -/
namespace L2.E9
open PySem PySem.Spec L2
open PyProof.Rows (envOfC)
theorem fun_ofD {K : PySem.W.Frag} {x qual : Str} {st : Stmt} {f : Addr} {fd : FuncData} (F : FunD K x qual (defArgs st) (defBody st) (defScope st) [] [] f fd) : Fun K x qual st f fd := by
  obtain ⟨oc, od, dV, kV, doc, pm, an, cdv, ct, osl, rfl, lk, hcd, hD, hK⟩ := F.ex
  rcases hD with ⟨_, rfl⟩ | ⟨e, _⟩
  · exact ⟨⟨oc, od, kV, doc, pm, an, cdv, ct, osl, rfl, lk, hcd⟩, F.kp⟩
  · exact absurd rfl e
theorem binds_kw {K : PySem.W.Frag} {x qual z : Str} {params : Arguments} {body : List Stmt} {scope : Scope} {f : Addr} {fd : FuncData} (F : FunD K x qual params body scope [] [] f fd)
    (h : ∀ (kV doc pm : Value) (an : Option Addr) (cdv ct a u : Value), bindArgs (PySem.W.fnOf x qual params body scope .none kV doc pm an cdv ct) ⟨[a], [(z, u)]⟩ = pure ([("self", a), (z, u)] : List (Str × Value))) (s : Shared) (a u : Value) : BindsTo s fd ⟨[a], [(z, u)]⟩ [("self", a), (z, u)] := by
  obtain ⟨oc, od, dV, kV, doc, pm, an, cdv, ct, osl, rfl, lk, hcd, hD, hK⟩ := F.ex
  rcases hD with ⟨_, rfl⟩ | ⟨e, _⟩
  · exact .of_eq (h kV doc pm an cdv ct a u)
  · exact absurd rfl e
section
variable {P : Program} {w : World} {K : PySem.W.Frag} {mg : Str → Option Value} {base h : Heap}
/-- a class's own __init__ -/
theorem ini_ok {i : Nat} {qual : Str} {st : Stmt} {q1 q2 q3 q4 : Pos} (x : Str) (ex : x = fl i) {fd : FuncData} (F : FunD K "__init__" qual (defArgs st) (defBody st) (defScope st) [] [] (iA K i) fd) (hb : defBody st = [.Assign [.Attribute (.Name "self" q1) x q2] (.Name x q3) q4]) (S : FnScope ["self", x] ["self", x] (defScope st))
    (v0 : Vis (defScope st) "self") (v1 : Vis (defScope st) x) (hd : (x == ("__debug__" : Str)) = false) (hc : (x == ("__classdict__" : Str)) = false)
    (hB : ∀ (kV doc pm : Value) (an : Option Addr) (cdv ct : Value) (us : List Value), us.length = (["self", x] : List Str).length → bindArgs (PySem.W.fnOf "__init__" qual (defArgs st) (defBody st) (defScope st) .none kV doc pm an cdv ct) ⟨us, []⟩ = pure ((["self", x] : List Str).zip us))
    (hW : ∀ (kV doc pm : Value) (an : Option Addr) (cdv ct a u : Value), bindArgs (PySem.W.fnOf "__init__" qual (defArgs st) (defBody st) (defScope st) .none kV doc pm an cdv ct) ⟨[a], [(x, u)]⟩ = pure ([("self", a), (x, u)] : List (Str × Value))) :
    ∃ fd, FnOk P w K mg base CX0 1 (iA K i) fd ["self", fl i] (spIni K (cA K i) (fl i)) ∧ L2.Binds K fd ["self", fl i] [] ∧ ∀ (s : Shared) (a u : Value), BindsTo s fd ⟨[a], [(fl i, u)]⟩ [("self", a), (fl i, u)] := by
  subst ex
  exact ⟨fd, ok_ini F hb S v0 v1 hd hc, F.bindsN hB, binds_kw F hW⟩
theorem facts9 (X : K.In h) (G : h.Ns mainGlobals mg) {fa : Addr} (hfa : mg ("law" : Str) = some (.ref fa)) (c : He.SaysX fa9 fn9 [] [] ex9 w h K) :
    ∃ fd : FuncData, (∀ (s : Shared) (v : Value), BindsTo s fd ⟨[v], []⟩ [("script", v)]) ∧ ∀ base : Heap, K.In base → base.Ns mainGlobals mg → FnOk P w K mg base CX0 5 fa fd ["script"] (spLw K) := by
  have cd := c.t.d
  obtain ⟨hE, hx⟩ := He.ba c.more
  obtain ⟨hx1, hx⟩ := He.ba hx
  obtain ⟨hx2, hx3⟩ := He.ba hx
  have EF : ∀ i, i < 21 → ErF K i := fun i hi => erB_ok (List.all_eq_true.mp hE i (List.mem_range.mpr hi))
  obtain ⟨fd0, F0⟩ := cd.def_ 0 (d := dF0) rfl
  have f0 : Fun K "_law_start" "_law_start" sStart _ fd0 := fun_ofD (st := sStart) F0
  have D0 : DefAt K mg "_law_start" sStart ["script"] _ fd0 := ⟨f0, He.glo_ok X G (cd.fact 0 (f := .glo "_law_start") rfl), FunD.bindsN F0 fun _ _ _ _ _ _ us hl => match us, hl with | [_], _ => rfl⟩
  obtain ⟨fd1, F1⟩ := cd.def_ 1 (d := dF1) rfl
  have f1 : Fun K "_law_pick" "_law_pick" sPick _ fd1 := fun_ofD (st := sPick) F1
  have D1 : DefAt K mg "_law_pick" sPick ["state", "many"] _ fd1 := ⟨f1, He.glo_ok X G (cd.fact 1 (f := .glo "_law_pick") rfl), FunD.bindsN F1 fun _ _ _ _ _ _ us hl => match us, hl with | [_, _], _ => rfl⟩
  obtain ⟨fd2, F2⟩ := cd.def_ 2 (d := dF2) rfl
  have f2 : Fun K "_law_between" "_law_between" sBet _ fd2 := fun_ofD (st := sBet) F2
  have D2 : DefAt K mg "_law_between" sBet ["state", "low", "high"] _ fd2 := ⟨f2, He.glo_ok X G (cd.fact 2 (f := .glo "_law_between") rfl), FunD.bindsN F2 fun _ _ _ _ _ _ us hl => match us, hl with | [_, _, _], _ => rfl⟩
  obtain ⟨fd3, F3⟩ := cd.def_ 3 (d := dF3) rfl
  have f3 : Fun K "_law_kinds" "_law_kinds" sKi _ fd3 := fun_ofD (st := sKi) F3
  have D3 : DefAt K mg "_law_kinds" sKi ["e"] _ fd3 := ⟨f3, He.glo_ok X G (cd.fact 3 (f := .glo "_law_kinds") rfl), FunD.bindsN F3 fun _ _ _ _ _ _ us hl => match us, hl with | [_], _ => rfl⟩
  obtain ⟨fd4, F4⟩ := cd.def_ 4 (d := dF4) rfl
  have f4 : Fun K "_law_first_made" "_law_first_made" sFm _ fd4 := fun_ofD (st := sFm) F4
  have D4 : DefAt K mg "_law_first_made" sFm ["at", "x"] _ fd4 := ⟨f4, He.glo_ok X G (cd.fact 4 (f := .glo "_law_first_made") rfl), FunD.bindsN F4 fun _ _ _ _ _ _ us hl => match us, hl with | [_, _], _ => rfl⟩
  obtain ⟨fd5, F5⟩ := cd.def_ 5 (d := dF5) rfl
  have f5 : Fun K "_law_made_at" "_law_made_at" sMd _ fd5 := fun_ofD (st := sMd) F5
  have D5 : DefAt K mg "_law_made_at" sMd ["at", "x"] _ fd5 := ⟨f5, He.glo_ok X G (cd.fact 5 (f := .glo "_law_made_at") rfl), FunD.bindsN F5 fun _ _ _ _ _ _ us hl => match us, hl with | [_, _], _ => rfl⟩
  obtain ⟨fd6, F6⟩ := cd.def_ 6 (d := dF6) rfl
  have f6 : Fun K "_law_object" "_law_object" sObj _ fd6 := fun_ofD (st := sObj) F6
  have D6 : DefAt K mg "_law_object" sObj ["state"] _ fd6 := ⟨f6, He.glo_ok X G (cd.fact 6 (f := .glo "_law_object") rfl), FunD.bindsN F6 fun _ _ _ _ _ _ us hl => match us, hl with | [_], _ => rfl⟩
  obtain ⟨fd7, F7⟩ := cd.def_ 7 (d := dF7) rfl
  have f7 : Fun K "_law_very" "_law_very" sVy _ fd7 := fun_ofD (st := sVy) F7
  have D7 : DefAt K mg "_law_very" sVy ["found", "due"] _ fd7 := ⟨f7, He.glo_ok X G (cd.fact 7 (f := .glo "_law_very") rfl), FunD.bindsN F7 fun _ _ _ _ _ _ us hl => match us, hl with | [_, _], _ => rfl⟩
  obtain ⟨fd8, F8⟩ := cd.def_ 8 (d := dF8) rfl
  have f8 : Fun K "_law_caught" "_law_caught" sCt _ fd8 := fun_ofD (st := sCt) F8
  have D8 : DefAt K mg "_law_caught" sCt ["x"] _ fd8 := ⟨f8, He.glo_ok X G (cd.fact 8 (f := .glo "_law_caught") rfl), FunD.bindsN F8 fun _ _ _ _ _ _ us hl => match us, hl with | [_], _ => rfl⟩
  obtain ⟨fd9, F9⟩ := cd.def_ 9 (d := dF9) rfl
  have f9 : Fun K "law" "law" sLw _ fd9 := fun_ofD (st := sLw) F9
  have D9 : DefAt K mg "law" sLw ["script"] _ fd9 := ⟨f9, He.glo_ok X G (cd.fact 9 (f := .glo "law") rfl), FunD.bindsN F9 fun _ _ _ _ _ _ us hl => match us, hl with | [_], _ => rfl⟩
  have g_isinstance : mg "isinstance" = none := He.free_ok X G (cd.fact 32 (f := .free "isinstance") rfl)
  have g_list : mg "list" = none := He.free_ok X G (cd.fact 33 (f := .free "list") rfl)
  have g_dict : mg "dict" = none := He.free_ok X G (cd.fact 34 (f := .free "dict") rfl)
  have g_bool : mg "bool" = none := He.free_ok X G (cd.fact 35 (f := .free "bool") rfl)
  have g_int : mg "int" = none := He.free_ok X G (cd.fact 36 (f := .free "int") rfl)
  have g_str : mg "str" = none := He.free_ok X G (cd.fact 37 (f := .free "str") rfl)
  have g_tuple : mg "tuple" = none := He.free_ok X G (cd.fact 38 (f := .free "tuple") rfl)
  have g_len : mg "len" = none := He.free_ok X G (cd.fact 39 (f := .free "len") rfl)
  have g_range : mg "range" = none := He.free_ok X G (cd.fact 40 (f := .free "range") rfl)
  have g_ValueError : mg "ValueError" = none := He.free_ok X G (cd.fact 41 (f := .free "ValueError") rfl)
  have g_KeyError : mg "KeyError" = none := He.free_ok X G (cd.fact 42 (f := .free "KeyError") rfl)
  have g_IndexError : mg "IndexError" = none := He.free_ok X G (cd.fact 43 (f := .free "IndexError") rfl)
  have g_TypeError : mg "TypeError" = none := He.free_ok X G (cd.fact 44 (f := .free "TypeError") rfl)
  have g_abs : mg "abs" = none := He.free_ok X G (cd.fact 45 (f := .free "abs") rfl)
  have g_max : mg "max" = none := He.free_ok X G (cd.fact 46 (f := .free "max") rfl)
  have e := hfa.symm.trans D9.g
  cases e
  refine ⟨fd9, fun s v => FunD.bindsA (ps := ["script"]) F9 (fun _ _ _ _ _ _ us hl => match us, hl with | [_], _ => rfl) s [v] rfl, fun base _ _ => ?_⟩
  have GL : ∀ i, i < 21 → mg (nm i) = some (.ref (cA K i)) := fun i hi => by
    match i, hi with
    | 0, _ => exact He.glo_ok X G (cd.fact 10 (f := .glo "BadClosing") rfl)
    | 1, _ => exact He.glo_ok X G (cd.fact 11 (f := .glo "BadOwn") rfl)
    | 2, _ => exact He.glo_ok X G (cd.fact 12 (f := .glo "BadNews") rfl)
    | 3, _ => exact He.glo_ok X G (cd.fact 13 (f := .glo "BadRules") rfl)
    | 4, _ => exact He.glo_ok X G (cd.fact 14 (f := .glo "BadDay") rfl)
    | 5, _ => exact He.glo_ok X G (cd.fact 15 (f := .glo "BadEvent") rfl)
    | 6, _ => exact He.glo_ok X G (cd.fact 16 (f := .glo "BadNames") rfl)
    | 7, _ => exact He.glo_ok X G (cd.fact 17 (f := .glo "BadLengths") rfl)
    | 8, _ => exact He.glo_ok X G (cd.fact 18 (f := .glo "BadBook") rfl)
    | 9, _ => exact He.glo_ok X G (cd.fact 19 (f := .glo "BadTimes") rfl)
    | 10, _ => exact He.glo_ok X G (cd.fact 20 (f := .glo "BadNow") rfl)
    | 11, _ => exact He.glo_ok X G (cd.fact 21 (f := .glo "BadKnown") rfl)
    | 12, _ => exact He.glo_ok X G (cd.fact 22 (f := .glo "BadLine") rfl)
    | 13, _ => exact He.glo_ok X G (cd.fact 23 (f := .glo "BadTable") rfl)
    | 14, _ => exact He.glo_ok X G (cd.fact 24 (f := .glo "BadLines") rfl)
    | 15, _ => exact He.glo_ok X G (cd.fact 25 (f := .glo "BadOther") rfl)
    | 16, _ => exact He.glo_ok X G (cd.fact 26 (f := .glo "BadDayText") rfl)
    | 17, _ => exact He.glo_ok X G (cd.fact 27 (f := .glo "BadBookText") rfl)
    | 18, _ => exact He.glo_ok X G (cd.fact 28 (f := .glo "BadAnswer") rfl)
    | 19, _ => exact He.glo_ok X G (cd.fact 29 (f := .glo "BadAnswerText") rfl)
    | 20, _ => exact He.glo_ok X G (cd.fact 30 (f := .glo "BadWholeText") rfl)
    | n + 21, h => exact omega_abs h
  have KP : ∀ i, i < 21 → PySem.W.keepIn K (.ref (cA K i)) = true := fun i hi => by
    match i, hi with
    | 0, _ => exact He.keep_ok (x := "BadClosing") (cd.fact 47 (f := .keep "BadClosing") rfl)
    | 1, _ => exact He.keep_ok (x := "BadOwn") (cd.fact 48 (f := .keep "BadOwn") rfl)
    | 2, _ => exact He.keep_ok (x := "BadNews") (cd.fact 49 (f := .keep "BadNews") rfl)
    | 3, _ => exact He.keep_ok (x := "BadRules") (cd.fact 50 (f := .keep "BadRules") rfl)
    | 4, _ => exact He.keep_ok (x := "BadDay") (cd.fact 51 (f := .keep "BadDay") rfl)
    | 5, _ => exact He.keep_ok (x := "BadEvent") (cd.fact 52 (f := .keep "BadEvent") rfl)
    | 6, _ => exact He.keep_ok (x := "BadNames") (cd.fact 53 (f := .keep "BadNames") rfl)
    | 7, _ => exact He.keep_ok (x := "BadLengths") (cd.fact 54 (f := .keep "BadLengths") rfl)
    | 8, _ => exact He.keep_ok (x := "BadBook") (cd.fact 55 (f := .keep "BadBook") rfl)
    | 9, _ => exact He.keep_ok (x := "BadTimes") (cd.fact 56 (f := .keep "BadTimes") rfl)
    | 10, _ => exact He.keep_ok (x := "BadNow") (cd.fact 57 (f := .keep "BadNow") rfl)
    | 11, _ => exact He.keep_ok (x := "BadKnown") (cd.fact 58 (f := .keep "BadKnown") rfl)
    | 12, _ => exact He.keep_ok (x := "BadLine") (cd.fact 59 (f := .keep "BadLine") rfl)
    | 13, _ => exact He.keep_ok (x := "BadTable") (cd.fact 60 (f := .keep "BadTable") rfl)
    | 14, _ => exact He.keep_ok (x := "BadLines") (cd.fact 61 (f := .keep "BadLines") rfl)
    | 15, _ => exact He.keep_ok (x := "BadOther") (cd.fact 62 (f := .keep "BadOther") rfl)
    | 16, _ => exact He.keep_ok (x := "BadDayText") (cd.fact 63 (f := .keep "BadDayText") rfl)
    | 17, _ => exact He.keep_ok (x := "BadBookText") (cd.fact 64 (f := .keep "BadBookText") rfl)
    | 18, _ => exact He.keep_ok (x := "BadAnswer") (cd.fact 65 (f := .keep "BadAnswer") rfl)
    | 19, _ => exact He.keep_ok (x := "BadAnswerText") (cd.fact 66 (f := .keep "BadAnswerText") rfl)
    | 20, _ => exact He.keep_ok (x := "BadWholeText") (cd.fact 67 (f := .keep "BadWholeText") rfl)
    | n + 21, h => exact omega_abs h
  have IN : ∀ i, i < 21 → ∃ fd, FnOk P w K mg base CX0 1 (iA K i) fd ["self", fl i] (spIni K (cA K i) (fl i)) ∧ L2.Binds K fd ["self", fl i] [] ∧ ∀ (s : Shared) (a u : Value), BindsTo s fd ⟨[a], [(fl i, u)]⟩ [("self", a), (fl i, u)] := fun i hi => by
    match i, hi with
    | 0, _ =>
      obtain ⟨fd, Fi⟩ := cd.def_ 10 (d := dI0) rfl
      exact ini_ok (i := 0) (st := inS 0) (qual := "BadClosing.__init__") "closing" rfl Fi rfl ⟨rfl, rfl, rfl, by decide +kernel, rfl, by decide +kernel, by decide +kernel⟩ (Or.inl rfl) (Or.inl rfl) (by decide) (by decide) (fun _ _ _ _ _ _ us hl => match us, hl with | [_, _], _ => rfl) (fun _ _ _ _ _ _ _ _ => rfl)
    | 1, _ =>
      obtain ⟨fd, Fi⟩ := cd.def_ 11 (d := dI1) rfl
      exact ini_ok (i := 1) (st := inS 1) (qual := "BadOwn.__init__") "own" rfl Fi rfl ⟨rfl, rfl, rfl, by decide +kernel, rfl, by decide +kernel, by decide +kernel⟩ (Or.inl rfl) (Or.inl rfl) (by decide) (by decide) (fun _ _ _ _ _ _ us hl => match us, hl with | [_, _], _ => rfl) (fun _ _ _ _ _ _ _ _ => rfl)
    | 2, _ =>
      obtain ⟨fd, Fi⟩ := cd.def_ 12 (d := dI2) rfl
      exact ini_ok (i := 2) (st := inS 2) (qual := "BadNews.__init__") "index" rfl Fi rfl ⟨rfl, rfl, rfl, by decide +kernel, rfl, by decide +kernel, by decide +kernel⟩ (Or.inl rfl) (Or.inl rfl) (by decide) (by decide) (fun _ _ _ _ _ _ us hl => match us, hl with | [_, _], _ => rfl) (fun _ _ _ _ _ _ _ _ => rfl)
    | 3, _ =>
      obtain ⟨fd, Fi⟩ := cd.def_ 13 (d := dI3) rfl
      exact ini_ok (i := 3) (st := inS 3) (qual := "BadRules.__init__") "index" rfl Fi rfl ⟨rfl, rfl, rfl, by decide +kernel, rfl, by decide +kernel, by decide +kernel⟩ (Or.inl rfl) (Or.inl rfl) (by decide) (by decide) (fun _ _ _ _ _ _ us hl => match us, hl with | [_, _], _ => rfl) (fun _ _ _ _ _ _ _ _ => rfl)
    | 4, _ =>
      obtain ⟨fd, Fi⟩ := cd.def_ 14 (d := dI4) rfl
      exact ini_ok (i := 4) (st := inS 4) (qual := "BadDay.__init__") "day" rfl Fi rfl ⟨rfl, rfl, rfl, by decide +kernel, rfl, by decide +kernel, by decide +kernel⟩ (Or.inl rfl) (Or.inl rfl) (by decide) (by decide) (fun _ _ _ _ _ _ us hl => match us, hl with | [_, _], _ => rfl) (fun _ _ _ _ _ _ _ _ => rfl)
    | 5, _ =>
      obtain ⟨fd, Fi⟩ := cd.def_ 15 (d := dI5) rfl
      exact ini_ok (i := 5) (st := inS 5) (qual := "BadEvent.__init__") "event" rfl Fi rfl ⟨rfl, rfl, rfl, by decide +kernel, rfl, by decide +kernel, by decide +kernel⟩ (Or.inl rfl) (Or.inl rfl) (by decide) (by decide) (fun _ _ _ _ _ _ us hl => match us, hl with | [_, _], _ => rfl) (fun _ _ _ _ _ _ _ _ => rfl)
    | 6, _ =>
      obtain ⟨fd, Fi⟩ := cd.def_ 16 (d := dI6) rfl
      exact ini_ok (i := 6) (st := inS 6) (qual := "BadNames.__init__") "names" rfl Fi rfl ⟨rfl, rfl, rfl, by decide +kernel, rfl, by decide +kernel, by decide +kernel⟩ (Or.inl rfl) (Or.inl rfl) (by decide) (by decide) (fun _ _ _ _ _ _ us hl => match us, hl with | [_, _], _ => rfl) (fun _ _ _ _ _ _ _ _ => rfl)
    | 7, _ =>
      obtain ⟨fd, Fi⟩ := cd.def_ 17 (d := dI7) rfl
      exact ini_ok (i := 7) (st := inS 7) (qual := "BadLengths.__init__") "lengths" rfl Fi rfl ⟨rfl, rfl, rfl, by decide +kernel, rfl, by decide +kernel, by decide +kernel⟩ (Or.inl rfl) (Or.inl rfl) (by decide) (by decide) (fun _ _ _ _ _ _ us hl => match us, hl with | [_, _], _ => rfl) (fun _ _ _ _ _ _ _ _ => rfl)
    | 8, _ =>
      obtain ⟨fd, Fi⟩ := cd.def_ 18 (d := dI8) rfl
      exact ini_ok (i := 8) (st := inS 8) (qual := "BadBook.__init__") "book" rfl Fi rfl ⟨rfl, rfl, rfl, by decide +kernel, rfl, by decide +kernel, by decide +kernel⟩ (Or.inl rfl) (Or.inl rfl) (by decide) (by decide) (fun _ _ _ _ _ _ us hl => match us, hl with | [_, _], _ => rfl) (fun _ _ _ _ _ _ _ _ => rfl)
    | 9, _ =>
      obtain ⟨fd, Fi⟩ := cd.def_ 19 (d := dI9) rfl
      exact ini_ok (i := 9) (st := inS 9) (qual := "BadTimes.__init__") "times" rfl Fi rfl ⟨rfl, rfl, rfl, by decide +kernel, rfl, by decide +kernel, by decide +kernel⟩ (Or.inl rfl) (Or.inl rfl) (by decide) (by decide) (fun _ _ _ _ _ _ us hl => match us, hl with | [_, _], _ => rfl) (fun _ _ _ _ _ _ _ _ => rfl)
    | 10, _ =>
      obtain ⟨fd, Fi⟩ := cd.def_ 20 (d := dI10) rfl
      exact ini_ok (i := 10) (st := inS 10) (qual := "BadNow.__init__") "now" rfl Fi rfl ⟨rfl, rfl, rfl, by decide +kernel, rfl, by decide +kernel, by decide +kernel⟩ (Or.inl rfl) (Or.inl rfl) (by decide) (by decide) (fun _ _ _ _ _ _ us hl => match us, hl with | [_, _], _ => rfl) (fun _ _ _ _ _ _ _ _ => rfl)
    | 11, _ =>
      obtain ⟨fd, Fi⟩ := cd.def_ 21 (d := dI11) rfl
      exact ini_ok (i := 11) (st := inS 11) (qual := "BadKnown.__init__") "known" rfl Fi rfl ⟨rfl, rfl, rfl, by decide +kernel, rfl, by decide +kernel, by decide +kernel⟩ (Or.inl rfl) (Or.inl rfl) (by decide) (by decide) (fun _ _ _ _ _ _ us hl => match us, hl with | [_, _], _ => rfl) (fun _ _ _ _ _ _ _ _ => rfl)
    | 12, _ =>
      obtain ⟨fd, Fi⟩ := cd.def_ 22 (d := dI12) rfl
      exact ini_ok (i := 12) (st := inS 12) (qual := "BadLine.__init__") "line" rfl Fi rfl ⟨rfl, rfl, rfl, by decide +kernel, rfl, by decide +kernel, by decide +kernel⟩ (Or.inl rfl) (Or.inl rfl) (by decide) (by decide) (fun _ _ _ _ _ _ us hl => match us, hl with | [_, _], _ => rfl) (fun _ _ _ _ _ _ _ _ => rfl)
    | 13, _ =>
      obtain ⟨fd, Fi⟩ := cd.def_ 23 (d := dI13) rfl
      exact ini_ok (i := 13) (st := inS 13) (qual := "BadTable.__init__") "table" rfl Fi rfl ⟨rfl, rfl, rfl, by decide +kernel, rfl, by decide +kernel, by decide +kernel⟩ (Or.inl rfl) (Or.inl rfl) (by decide) (by decide) (fun _ _ _ _ _ _ us hl => match us, hl with | [_, _], _ => rfl) (fun _ _ _ _ _ _ _ _ => rfl)
    | 14, _ =>
      obtain ⟨fd, Fi⟩ := cd.def_ 24 (d := dI14) rfl
      exact ini_ok (i := 14) (st := inS 14) (qual := "BadLines.__init__") "lines" rfl Fi rfl ⟨rfl, rfl, rfl, by decide +kernel, rfl, by decide +kernel, by decide +kernel⟩ (Or.inl rfl) (Or.inl rfl) (by decide) (by decide) (fun _ _ _ _ _ _ us hl => match us, hl with | [_, _], _ => rfl) (fun _ _ _ _ _ _ _ _ => rfl)
    | 15, _ =>
      obtain ⟨fd, Fi⟩ := cd.def_ 25 (d := dI15) rfl
      exact ini_ok (i := 15) (st := inS 15) (qual := "BadOther.__init__") "other" rfl Fi rfl ⟨rfl, rfl, rfl, by decide +kernel, rfl, by decide +kernel, by decide +kernel⟩ (Or.inl rfl) (Or.inl rfl) (by decide) (by decide) (fun _ _ _ _ _ _ us hl => match us, hl with | [_, _], _ => rfl) (fun _ _ _ _ _ _ _ _ => rfl)
    | 16, _ =>
      obtain ⟨fd, Fi⟩ := cd.def_ 26 (d := dI16) rfl
      exact ini_ok (i := 16) (st := inS 16) (qual := "BadDayText.__init__") "line" rfl Fi rfl ⟨rfl, rfl, rfl, by decide +kernel, rfl, by decide +kernel, by decide +kernel⟩ (Or.inl rfl) (Or.inl rfl) (by decide) (by decide) (fun _ _ _ _ _ _ us hl => match us, hl with | [_, _], _ => rfl) (fun _ _ _ _ _ _ _ _ => rfl)
    | 17, _ =>
      obtain ⟨fd, Fi⟩ := cd.def_ 27 (d := dI17) rfl
      exact ini_ok (i := 17) (st := inS 17) (qual := "BadBookText.__init__") "line" rfl Fi rfl ⟨rfl, rfl, rfl, by decide +kernel, rfl, by decide +kernel, by decide +kernel⟩ (Or.inl rfl) (Or.inl rfl) (by decide) (by decide) (fun _ _ _ _ _ _ us hl => match us, hl with | [_, _], _ => rfl) (fun _ _ _ _ _ _ _ _ => rfl)
    | 18, _ =>
      obtain ⟨fd, Fi⟩ := cd.def_ 28 (d := dI18) rfl
      exact ini_ok (i := 18) (st := inS 18) (qual := "BadAnswer.__init__") "answer" rfl Fi rfl ⟨rfl, rfl, rfl, by decide +kernel, rfl, by decide +kernel, by decide +kernel⟩ (Or.inl rfl) (Or.inl rfl) (by decide) (by decide) (fun _ _ _ _ _ _ us hl => match us, hl with | [_, _], _ => rfl) (fun _ _ _ _ _ _ _ _ => rfl)
    | 19, _ =>
      obtain ⟨fd, Fi⟩ := cd.def_ 29 (d := dI19) rfl
      exact ini_ok (i := 19) (st := inS 19) (qual := "BadAnswerText.__init__") "line" rfl Fi rfl ⟨rfl, rfl, rfl, by decide +kernel, rfl, by decide +kernel, by decide +kernel⟩ (Or.inl rfl) (Or.inl rfl) (by decide) (by decide) (fun _ _ _ _ _ _ us hl => match us, hl with | [_, _], _ => rfl) (fun _ _ _ _ _ _ _ _ => rfl)
    | 20, _ =>
      obtain ⟨fd, Fi⟩ := cd.def_ 30 (d := dI20) rfl
      exact ini_ok (i := 20) (st := inS 20) (qual := "BadWholeText.__init__") "line" rfl Fi rfl ⟨rfl, rfl, rfl, by decide +kernel, rfl, by decide +kernel, by decide +kernel⟩ (Or.inl rfl) (Or.inl rfl) (by decide) (by decide) (fun _ _ _ _ _ _ us hl => match us, hl with | [_, _], _ => rfl) (fun _ _ _ _ _ _ _ _ => rfl)
    | n + 21, h => exact omega_abs h
  have ER : ∀ i, i < 21 → ErH P w K mg base i := fun i hi => ⟨GL i hi, KP i hi, ⟨(EF i hi).oex, (EF i hi).hno, (EF i hi).iC, (EF i hi).tI⟩, (EF i hi).xf, (EF i hi).ex, IN i hi⟩
  have gD : mg "DayError" = some (.ref (dA K)) := He.glo_ok X G (cd.fact 31 (f := .glo "DayError") rfl)
  have xD := He.exc_ok (x := "DayError") (cd.fact 68 (f := .exc "DayError") rfl)
  have CS : Cs P w K mg base := ⟨ER, fun i hi => (EF i hi).kit, fun i hi => (EF i hi).day, fun i hi => (EF i hi).val, fun i hi => (EF i hi).oth, gD, xD.2.1, xD.1, excB_ok hx1, kitB21_ok hx2, of_decide_eq_true hx3, He.exm_ok (x := "BadOther") (y := "DayError") (cd.fact 69 (f := .exm "BadOther" "DayError" true) rfl)⟩
  have GS : Gx mg := { isi := g_isinstance, lst := g_list, dct := g_dict, bl := g_bool, int := g_int, str := g_str, tup := g_tuple, len := g_len, rng := g_range, val := g_ValueError, key := g_KeyError, idx := g_IndexError, typ := g_TypeError }
  have OPk : FnOk P w K mg base CX0 1 _ fd1 ["state", "many"] spPick := ok_pick f1 g_abs g_int
  have OBt : FnOk P w K mg base CX0 2 _ fd2 ["state", "low", "high"] spBet := ok_bet f2 g_max D1 OPk
  have OKi : FnOk P w K mg base CX0 1 _ fd3 ["e"] (spKi K) := ok_ki f3 g_isinstance g_range GL
  have OKp : FnP P w K mg base CX0 1 _ fd3 ["e"] (spKiP K) := ok_kiP f3 g_isinstance g_range GL
  have OFm : FnOk P w K mg base CX0 3 _ fd4 ["at", "x"] (spMd K 0 11) := ok_fm f4 ER
  have DSx : Ds P w K mg base := {
    start := ⟨_, fd0, D0, ok_start f0 g_list⟩
    pick := ⟨_, fd1, D1, OPk⟩
    obj := ⟨_, fd6, D6, ok_obj f6 g_str D1 OPk D2 OBt⟩
    made := ⟨_, fd5, D5, ok_md f5 ER D4 OFm⟩
    kinds := ⟨_, fd3, D3, OKi⟩
    very := ⟨_, fd7, D7, ok_vy f7 GS.toGs⟩
    caught := ⟨_, fd8, D8, ok_ct f8 CS D3 OKi OKp g_isinstance g_ValueError⟩ }
  exact ok_lw f9 CS DSx GS
end
end L2.E9
open PySem PySem.W PySem.Calls PyProof.Rows
theorem PySem.Challenge.cw_dayled_k89_errors_of_days_holds : PySem.Challenge.rw_dayled_k89_errors_of_days.Holds := by
  w_on; o_law
  refine HandSHeadRun.head_any (r := OpenLaw.row PySem.Challenge.rw_dayled_k89_errors_of_days) (q := view (OpenLaw.row PySem.Challenge.rw_dayled_k89_errors_of_days).prog [33]) (H := L2.E9.hk9) (ob := L2.E9.ob9) (M := 20000) (loose := L2.E9.lo9) (d := HandSHeadRun.topDef (OpenLaw.row PySem.Challenge.rw_dayled_k89_errors_of_days).prog 33) (kwd := []) L2.E9.ob9_eq
    (by kernel_rfl) (fun s => by kernel_rfl) L2.E9.run9 (by kernel_rfl) (by kernel_rfl) (by kernel_rfl) (by rfl) (by first | assumption | decide +kernel) (by decide +kernel) ⟨rfl, rfl, rfl, rfl, rfl, by decide +kernel⟩ ?hw ?hc
  case hw => w_witness2
  case hc =>
    refine L2.walk_ofE (l := PySem.Challenge.rw_dayled_k89_errors_of_days) (n := 63) (k := 5) (x := "script") (CX := L2.CX0) rfl (by decide) (by kernel_rfl) ⟨rfl, by decide, by decide⟩ ?F (fun _ _ _ _ z => z)
    intro w mg fa h Y G hmg0
    obtain ⟨K, KX, c⟩ := Y
    have hmg : mg ("law" : PySem.Str) = some (.ref fa) := by
      have e : (HandSHeadRun.topDef (OpenLaw.row PySem.Challenge.rw_dayled_k89_errors_of_days).prog 33).name = ("law" : PySem.Str) := by kernel_rfl
      rw [← e]
      exact hmg0
    obtain ⟨fd, hb, hF⟩ := L2.E9.facts9 (P := (PySem.Challenge.rw_dayled_k89_errors_of_days).prog) (w := w) KX G hmg c
    exact ⟨K, fd, L2.E9.spLw K, KX, hb, fun H a ns hl _ hS => ⟨a, ns, rfl, hS, hl, fun _ => rfl⟩, hF⟩

