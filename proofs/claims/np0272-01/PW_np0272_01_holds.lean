import PyProof.Rows.All
import Wide.All
import OpenK.AllK
import Wide.FinOn
import PySem.Challenge.RW_np0272_01
open PySem PySem.W PyProof.Rows PySem.Calls PySem.Spec
set_option Elab.async false
set_option maxRecDepth 100000
set_option maxHeartbeats 16000000
set_option linter.all false
namespace Mine
@[reducible] def viewOf {a0 a1 a2 a3 a4 a5 a6 a7 a8 a9 a10 a11 a12 a13 a14 a15 a16 a17 a18 a19 a20 a21 a22 a23 a24 a25 a26 a27 a28 a29 a30 a31 : Stmt} (_ : PySem.Challenge.rw_np0272_01.row.toRowW.prog.main.body = [a0, a1, a2, a3, a4, a5, a6, a7, a8, a9, a10, a11, a12, a13, a14, a15, a16, a17, a18, a19, a20, a21, a22, a23, a24, a25, a26, a27, a28, a29, a30, a31]) : Program :=
  { PySem.Challenge.rw_np0272_01.row.toRowW.prog with main := { PySem.Challenge.rw_np0272_01.row.toRowW.prog.main with body := [a1, a2, a3, a4, a6, a7, a8, a9, a10, a11, a12, a13, a14, a15, a16, a17, a18, a19, a20, a22, a23, a24, a25, a26, a27, a28, a29, a30, a31] } }
noncomputable def vw : Program := viewOf (rfl : PySem.Challenge.rw_np0272_01.row.toRowW.prog.main.body = [_, _, _, _, _, _, _, _, _, _, _, _, _, _, _, _, _, _, _, _, _, _, _, _, _, _, _, _, _, _, _, _])
/-- the looks at the law, in two steps of the kernel -/
theorem look1 : OpenRow.wellSaid (OpenLaw.row PySem.Challenge.rw_np0272_01) = true := by kernel_rfl
theorem look2 : OpenLaw.wellSaid PySem.Challenge.rw_np0272_01 = true := by
  unfold OpenLaw.wellSaid
  repeat' (with_reducible refine look_both ?_ ?_)
  all_goals first | with_reducible exact look1 | kernel_rfl
section
local macro_rules | `(tactic| o_head $H) => `(tactic| (refine holds_open (q := Mine.vw) (loose := [PySem.Str.ofString "TermError"]) (Xt := fun s => xlAt Mine.vw [] s && recOk (RowW.records PySem.Challenge.rw_np0272_01.row.toRowW) s) (XP := XL Mine.vw []) (Yf := Hook.obs $H) (Ya := Hook.val $H) (YP := Hook.says $H) (N := 3536) ?hl (Hook.of $H) (Hook.keeps $H) (fun s e => xl_of s (Bool.and_eq_true_iff.mp e).1) XL.keeps (by rfl) (by rfl) (by rfl) (fun s e => recFacts_of (Bool.and_eq_true_iff.mp e).2) (by rfl) (by first | assumption | decide +kernel) (by decide +kernel) ⟨rfl, rfl, rfl, rfl, rfl, by decide +kernel⟩ ?hw ?hc; (case hl => (intro w; kernel_rfl)); rotate_left))
local macro_rules | `(tactic| o_law) => `(tactic| (refine holds_law Mine.look2 ?_; intro said))
open_top hd for PySem.Challenge.rw_np0272_01
end
end Mine

namespace Mine
theorem filled : (PySem.Challenge.rw_np0272_01 = PySem.Challenge.rw_np0272_01) → (Mine.hd.heap_1 = Mine.hd.heap_1) → True := by
  k_fill
  w_top off
  intro _ _
  trivial
end Mine

namespace Mine
local macro_rules | `(tactic| omega) => `(tactic| lia)
noncomputable abbrev PR := PySem.Challenge.rw_np0272_01.row.prog
noncomputable abbrev LO := looseW vw [Str.ofString "TermError"]
abbrev Led := List (Addr × Obj)
end Mine

namespace Mine
local macro_rules | `(tactic| omega) => `(tactic| lia)
abbrev bmBad : List Value := [.ref 32, .type "Exception", .type "BaseException", .type "object"]
abbrev clsBad : Obj := excClassObj (Str.ofString "BadLayout") (Str.ofString "BadLayout") 45 44 [.ref 32] bmBad true [] [] false none none (some (.ref 36)) none (some (.str (Str.ofString "BadLayout") 218)) (some (.str (Str.ofString "BadLayout") 226)) (some (.bool true)) "Exception.__new__"
abbrev excBad (t : Addr) : Obj := { cls := .ref 45, data := .fields #[.ref t, .none, .none, .none, .bool false, .none] }
section
variable {w : World} {A : Around} {E : Value → Shared → Prop} {R : Result → Shared → Prop} {h : Heap} {g : Array GenState} {d : Drawn} {t : Nat} {os : OsState}
theorem at45 (X : (hd.heap_1 w.params).In h) : h.get? 45 = some clsBad := by
  exact X 45 clsBad (by k_is)
theorem bad_check_new (X : (hd.heap_1 w.params).In h) {M : Model} {rest : List Value} {Q : Unit → Shared → Prop} (hq : Q () ⟨h, g, d, t, os⟩) :
    wpAny M A (checkBuiltinCall "Exception.__new__" ⟨.ref 45 :: rest, []⟩) Q E ⟨h, g, d, t, os⟩ := by
  have F := PySem.F.excBase_Exception
  have hC := at45 X
  have hcont : (Value.ref 45 :: bmBad).contains (.type "Exception") = true := by decide
  have hstar := F.noStar
  simp only [checkBuiltinCall, F.newKind, F.newSplit, F.newRow]
  repeat (first | refine wpAny_loadPart_at hC ?_ | (refine wpAny_isSubtype_exc hC ?_; rw [hcont]) | refine wpAny_staticBase_exc hC ?_ | refine wpAny_madeBy_exc hC ?_ | simp only [bne_self_eq_false, Bool.false_eq_true, if_false] | wp_step)
  exact hq
theorem bad_new (X : (hd.heap_1 w.params).In h) {rest : List Value} 
    (hq : R (.ok (.ret (.ref (h.objs.size + 1)))) ⟨(h.push { cls := .type "tuple", data := .seq rest.toArray }).push (excBad h.objs.size), g, d, t, os⟩) (hrest : rest.length ≤ sizeLine := by size_fits) :
    codeAny (model PR w) A (.builtin "Exception.__new__" ⟨.ref 45 :: rest, []⟩) R ⟨h, g, d, t, os⟩ := by
  have F := PySem.F.excBase_Exception
  have hC := at45 X
  have hends := F.ends
  have hcB : (Value.ref 45 :: bmBad).contains (.type "Exception") = true := by decide
  have hcA : (Value.ref 45 :: bmBad).contains (.type "AttributeError") = false := by decide
  have hcN : (Value.ref 45 :: bmBad).contains (.type "NameError") = false := by decide
  refine codeAny_builtinAt F.entry ?_
  unfold Builtin.«BaseException.__new__»
  refine PySem.wpAt_bind ?_
  show PySem.wpAt _ _ _ (stack >>= _) _ _ _
  refine PySem.wpAt_bind (PySem.wpAt_stack fun p below => PySem.wpAt_of_wpAny ?_)
  wp_walk
  refine PySem.wpAt_of_wpAny ?_
  rw [F.owner]
  repeat (first | with_reducible refine wpAny_madeHere_exc F.canon hC ?_ | with_reducible refine wpAny_loadPart_at hC ?_ | (with_reducible refine wpAny_isSubtype_exc hC ?_; first | rw [hcB] | rw [hcA] | rw [hcN]) | wp_step)
  show R _ _
  rw [Heap.size_push]
  exact hq
end
section
variable {w : World} {A : Around} {E : Value → Shared → Prop} {R : Result → Shared → Prop} {h : Heap} {g : Array GenState} {d : Drawn} {t : Nat} {os : OsState}
abbrev hBad (h : Heap) (rest : List Value) : Heap := (h.push { cls := .type "tuple", data := .seq rest.toArray }).push (excBad h.objs.size)
theorem bad_type_call (X : (hd.heap_1 w.params).In h) {rest : List Value} {Q : PySem.Fin → Shared → Prop}
    (hq : codeAny (model PR w) A (.call (.ref 29) ⟨.ref (h.objs.size + 1) :: rest, []⟩) (fun r s' => match r with | .ok (.ret .none) => Q (.done (.ret (.ref (h.objs.size + 1)))) s' | .ok _ => False | .error e => E e s') ⟨hBad h rest, g, d, t, os⟩) (hrest : rest.length ≤ sizeLine := by size_fits) :
    wpAny (model PR w) A (Builtin.«type.__call__» ⟨.ref 45 :: rest, []⟩) Q E ⟨h, g, d, t, os⟩ := by
  have F := PySem.F.excBase_Exception
  have hC := at45 X
  repeat (first | with_reducible refine wpAny_loadPart_at hC ?_ | with_reducible refine wpAny_madeBy_exc hC ?_ | wp_step)
  refine codeAny_call_builtin_code (Code.quiet_builtin _ F.quiet) (bad_check_new X ?_)
  refine bad_new X ?_ hrest
  show wpAny _ _ _ _ _ _
  have kp : ∀ b o, h.get? b = some o → (hBad h rest).get? b = some o := fun b o hb => Heap.get?_push_of_some _ (Heap.get?_push_of_some _ hb)
  have X₁ : (hd.heap_1 w.params).In (hBad h rest) := X.keeps kp
  have hC₁ := at45 X₁
  have hget : (hBad h rest).get? (h.objs.size + 1) = some (excBad h.objs.size) := by heap_get
  have hcC : (Value.ref 45 :: bmBad).contains (.ref 45) = true := by simp
  have li : Looks (model PR w) (hBad h rest) (typeLookup (.ref 45) "__init__") (some (.ref 29)) := looks_findIn X₁ (by k_is)
  have lb : Looks (model PR w) (hBad h rest) (bindSpecial (.ref 29) (.ref (h.objs.size + 1))) (.ref 29, [.ref (h.objs.size + 1)]) := bind_fn X₁ _ (by k_is)
  unfold isInstance
  repeat (first | with_reducible refine wpAny_loadPart_at hget ?_ | (with_reducible refine wpAny_isSubtype_exc hC₁ ?_; rw [hcC]) | wp_step)
  show wpAny _ _ (typeLookup (.ref 45) _) _ _ _
  refine li.at ?_
  refine wpAny_holding (wpAny_bind (lb.at ?_))
  dsimp only
  refine wpAny_bind (wpAny_call (codeAny_mono hq fun r s' z => ?_))
  rcases r with e | (_ | _ | _ | v)
  · exact z
  · exact z.elim
  · exact z.elim
  · exact z.elim
  · cases v <;> first | exact z.elim | skip
    exact wpAny_pure (wpAny_pure z)
theorem bad_call (X : (hd.heap_1 w.params).In h) {rest : List Value} {Q : Value → Shared → Prop}
    (hq : codeAny (model PR w) (A.under (.builtin "type.__call__" ⟨.ref 45 :: rest, []⟩)) (.call (.ref 29) ⟨.ref (h.objs.size + 1) :: rest, []⟩) (fun r s' => match r with | .ok (.ret .none) => Q (.ref (h.objs.size + 1)) s' | .ok _ => False | .error e => E e s') ⟨hBad h rest, g, d, t, os⟩) (hrest : rest.length ≤ sizeLine := by size_fits) :
    wpAny (model PR w) A (call (.ref 45) rest) Q E ⟨h, g, d, t, os⟩ := by
  have f1 := tc_lookup
  have f2 := tc_bind (.ref 45)
  have hC := at45 X
  have hT : (⟨h, g, d, t, os⟩ : Shared).TypeIs (.ref 45) "type" := ⟨_, hC, rfl⟩
  refine wpAny_call (codeAny_of_tree ?_)
  show wpAny _ _ (callAny (.ref 45) _) _ _ _
  repeat (any_goals (first | assumption | with_reducible refine wpAny_loadPart_at hC ?_ | wp_step))
  refine ⟨rfl, ?_⟩
  refine codeAny_call_builtin_at (Code.quiet_builtin _ (by decide +kernel)) entry_typeCall (wpAny_check_type_call_sub hC (bad_type_call (hrest := hrest) X ?_))
  exact hq
end
end Mine

namespace Mine
local macro_rules | `(tactic| omega) => `(tactic| lia)
/-- an exception of our class in flight: its dict is dd -/
def Fly (dd : Addr) (l : List Env) (B : Heap) (e : Addr) (fl : Value) (h : Heap) : Prop :=
  B.StaysIn h ∧ h.FunFrames B l ∧ B.get? e = none ∧ ∃ oe vs T oT ts, h.get? e = some oe ∧ (oe.cls = .ref 45 ∧ oe.dict = some dd) ∧ oe.data = .fields vs ∧ vs[1]? = some (.ref T) ∧
    B.get? T = none ∧ T ≠ e ∧ h.get? T = some oT ∧ oT.data = .fields ts ∧ ts[3]? = some fl
section
variable {M : Model} {A : Around} {E : Value → Shared → Prop} {s : Shared} {B : Heap} {env : Env} {outer l : List Env} {L e dd : Addr} {oe : Obj} {vs : Array Value} {head fl : Value} {hadNext : Bool} {Q : Unit → Shared → Prop}
theorem dict_mapFields (o : Obj) (f : Array Value → Array Value) : (o.mapFields f).dict = o.dict := by
  obtain ⟨c, d, dt, sl⟩ := o
  cases dt <;> rfl
theorem fly_entry (hfr : A.frames = some (env :: outer)) (hl : s.heap.FunFrames B (env :: outer)) (hf : env.frame = some L) (he : s.heap.get? e = some oe) (hkb : B.StaysIn s.heap) (hen : B.get? e = none)
    (hP : oe.cls = .ref 45 ∧ oe.dict = some dd) (hd : oe.data = .fields vs) (hsz : 1 < vs.size)
    (h : ∀ h', Fly dd (env :: outer) B e (rawInt L) h' → s.heap.UpToSlots h' → Q () { s with heap := h' }) :
    wpAny M A (do let a ← frameOf env; let pl ← entryPlaceOf L hadNext; let b ← EntryCells.newEntry head a .none (rawInt L) .none pl; setField (.ref e) 1 b) Q E s := by
  have hene : e ∉ (env :: outer).filterMap (·.frame) := fun hm => by
    obtain ⟨_, o, ho, hnf⟩ := hl.mem hm
    rw [he] at ho
    cases ho
    exact hnf vs hd
  refine wpAny_bind (wpAny_frameOf_fun hfr hl hf fun h₁ hs₁ => ?_)
  refine wpAny_bind (wpAny_entryPlaceOf fun pl hpl => ?_)
  unfold EntryCells.newEntry newFields
  refine wpAny_bind (wpAny_newObj_type ?_ (hpl.sizeOk5 _ _ _ _ _))
  have he₁ : h₁.get? e = some oe := (hs₁.2.1 e hene).trans he
  have kb₁ : B.StaysIn h₁ := fun b o hbo => (hs₁.2.1 b fun hm => by rw [(hl.mem hm).1] at hbo; cases hbo).trans (hkb b o hbo)
  generalize hob : ({ cls := .type "traceback", dict := none, data := .fields ([head, .ref L, .none, rawInt L, .none] ++ (if pl.isEmpty then List.replicate 6 Value.none else pl)).toArray } : Obj) = ob
  have hobd : ∃ ts : Array Value, ob.data = .fields ts ∧ ts[3]? = some (rawInt L) := by
    subst hob
    refine ⟨_, rfl, ?_⟩
    first | (simp; done) | (rcases hpl with rfl | ⟨_, _, _, _, _, _, _, rfl⟩ <;> simp)
  obtain ⟨ts, hobd, hob3⟩ := hobd
  have hT₂ : (h₁.push ob).get? h₁.objs.size = some ob := Heap.get?_push_size h₁ (Obj.isFreed_of_fields hobd)
  have he₂ : (h₁.push ob).get? e = some oe := Heap.get?_push_of_some ob he₁
  refine wpAny_setField he₂ hd hsz (h _ ?_ ?_)
  all_goals
    have hTe : h₁.objs.size ≠ e := Nat.ne_of_gt (Heap.lt_size he₁)
    have hd₃ := Obj.data_mapFields hd (·.setIfInBounds 1 (Value.ref h₁.objs.size))
    have noRecord : ∀ b o, s.heap.get? b = some o → (∀ vs, o.data ≠ .fields vs) → b ≠ e := fun b o hb hnf q => by
      rw [q, he] at hb
      cases hb
      exact hnf vs hd
    have keep : ∀ b o, b ≠ e → h₁.get? b = some o → ((h₁.push ob).update e (Obj.mapFields (·.setIfInBounds 1 (Value.ref h₁.objs.size)))).get? b = some o := fun b o hbe hb => by
      rw [Heap.get?_update_other _ _ (Ne.symm hbe)]
      exact Heap.get?_push_of_some _ hb
  · refine ⟨fun b o hbo => keep b o (fun q => by rw [q, hen] at hbo; cases hbo) (kb₁ b o hbo), hl.of_keeps fun b o hb hnf => ?_, hen, ?_⟩
    · obtain ⟨sl, hs⟩ := hs₁.2.2 b o hb
      exact ⟨_, keep b _ (noRecord b o hb hnf) hs, rfl⟩
    · refine ⟨_, _, h₁.objs.size, ob, ts, Heap.get?_update_self _ he₂ (Obj.isFreed_of_fields hd₃), ⟨(Obj.cls_mapFields _ _).trans hP.1, (dict_mapFields _ _).trans hP.2⟩, hd₃, by simp [hsz], kb₁.fresh, hTe, ?_, hobd, hob3⟩
      rw [Heap.get?_update_other _ _ (Ne.symm hTe)]
      exact hT₂
  · intro b o hb hnf
    obtain ⟨sl, hs⟩ := hs₁.2.2 b o hb
    exact ⟨sl, keep b _ (noRecord b o hb hnf) hs⟩
theorem note_first (hfr : A.frames = some (env :: outer)) (hl : s.heap.FunFrames B (env :: outer)) (hf : env.frame = some L) (he : s.heap.get? e = some oe) (hkb : B.StaysIn s.heap) (hen : B.get? e = none)
    (hP : oe.cls = .ref 45 ∧ oe.dict = some dd) (hd : oe.data = .fields vs) (h1 : vs[1]? = some .none)
    (h : ∀ h', Fly dd (env :: outer) B e (rawInt L) h' → s.heap.UpToSlots h' → Q () { s with heap := h' }) : wpAny M A (noteFrame (.ref e) env) Q E s := by
  unfold noteFrame
  simp only [hf]
  refine wpAny_bind (wpAny_field he hd h1 ?_)
  rw [if_neg (by decide)]
  exact fly_entry hfr hl hf he hkb hen hP hd (Array.getElem?_eq_some_iff.mp h1).1 h
/-- the field 3 of the traceback object is set: nothing else turns -/
theorem fly_set {v : Value} (hF : Fly dd l B e fl s.heap) : ∃ T oT ts, s.heap.get? T = some oT ∧ oT.data = .fields ts ∧ 3 < ts.size ∧
    Fly dd l B e v (s.heap.update T (Obj.mapFields (·.setIfInBounds 3 v))) ∧ s.heap.UpToSlots (s.heap.update T (Obj.mapFields (·.setIfInBounds 3 v))) ∧
    ∃ oe vs, s.heap.get? e = some oe ∧ (oe.cls = .ref 45 ∧ oe.dict = some dd) ∧ oe.data = .fields vs ∧ vs[1]? = some (.ref T) ∧ ts[3]? = some fl := by
  obtain ⟨hkb, hl, hen, oe, vs, T, oT, ts, he, hP, hd, h1, hnT, hTe, hT, hdT, h3⟩ := hF
  have hsz3 : 3 < ts.size := (Array.getElem?_eq_some_iff.mp h3).1
  have other : ∀ b, b ≠ T → (s.heap.update T (Obj.mapFields (·.setIfInBounds 3 v))).get? b = s.heap.get? b := fun b hb => Heap.get?_update_other _ _ (Ne.symm hb)
  have noRecord : ∀ b o, s.heap.get? b = some o → (∀ vs, o.data ≠ .fields vs) → b ≠ T := fun b o hb hnf q => by
    rw [q, hT] at hb
    cases hb
    exact hnf ts hdT
  refine ⟨T, oT, ts, hT, hdT, hsz3, ⟨fun b o hbo => (other b fun q => by rw [q, hnT] at hbo; cases hbo).trans (hkb b o hbo), hl.of_keeps fun b o hb hnf => ⟨o, (other b (noRecord b o hb hnf)).trans hb, rfl⟩, hen, ?_⟩,
    fun b o hb hnf => ⟨o.slots, (other b (noRecord b o hb hnf)).trans hb⟩, oe, vs, he, hP, hd, h1, h3⟩
  exact ⟨oe, vs, T, _, _, (other e (Ne.symm hTe)).trans he, hP, hd, h1, hnT, hTe, Heap.get?_update_self _ hT (Obj.isFreed_of_fields (Obj.data_mapFields hdT _)), Obj.data_mapFields hdT _, by simp [hsz3]⟩
theorem note_next (hfr : A.frames = some (env :: outer)) (hf : env.frame = some L) (hF : Fly dd (env :: outer) B e .none s.heap)
    (h : ∀ h', Fly dd (env :: outer) B e (rawInt L) h' → s.heap.UpToSlots h' → Q () { s with heap := h' }) : wpAny M A (noteFrame (.ref e) env) Q E s := by
  obtain ⟨T, oT, ts, hT, hdT, hsz3, hF', hU, oe, vs, he, hP, hd, h1, h3⟩ := fly_set (v := .none) hF
  unfold noteFrame
  simp only [hf]
  refine wpAny_bind (wpAny_field he hd h1 ?_)
  rw [if_pos (show (Value.ref T != Value.none) = true from by simp)]
  refine wpAny_bind (wpAny_field hT hdT h3 ?_)
  rw [if_neg (show ¬ ((Value.none == rawInt L) = true) from by simp [rawInt])]
  refine wpAny_bind (wpAny_setField hT hdT hsz3 ?_)
  obtain ⟨hkb, hl, hen, oe', vs', T', oT', ts', he', hP', hd', h1', hnT', hTe', hT', hdT', h3'⟩ := hF'
  exact fly_entry hfr hl hf he' hkb hen hP' hd' (Array.getElem?_eq_some_iff.mp h1').1 fun h' f u => h h' f (hU.trans u)
theorem flight_none (hF : Fly dd l B e fl s.heap) (h : ∀ h', Fly dd l B e .none h' → s.heap.UpToSlots h' → Q () { s with heap := h' }) : wpAny M A (setFlight (.ref e) none) Q E s := by
  obtain ⟨T, oT, ts, hT, hdT, hsz3, hF', hU, oe, vs, he, hP, hd, h1, h3⟩ := fly_set (v := .none) hF
  unfold setFlight
  refine wpAny_bind (wpAny_field he hd h1 ?_)
  rw [if_pos (show (Value.ref T != Value.none) = true from by simp)]
  exact wpAny_setField hT hdT hsz3 (h _ hF' hU)
theorem leave_next (hfr : A.frames = some (env :: outer)) (hf : env.frame = some L) (hF : Fly dd (env :: outer) B e .none s.heap)
    (h : ∀ h', Fly dd outer B e .none h' → s.heap.UpToSlots h' → Q () { s with heap := h' }) : wpAny M A (leaving env (.ref e)) Q E s := by
  unfold leaving
  refine wpAny_bind (note_next hfr hf hF fun h₁ f₁ u₁ => flight_none f₁ fun h₂ f₂ u₂ => ?_)
  obtain ⟨a, ⟨_, _, b⟩, c⟩ := f₂
  exact h h₂ ⟨a, b, c⟩ (u₁.trans u₂)
theorem leave_first (hfr : A.frames = some (env :: outer)) (hl : s.heap.FunFrames B (env :: outer)) (hf : env.frame = some L) (he : s.heap.get? e = some oe) (hkb : B.StaysIn s.heap) (hen : B.get? e = none)
    (hP : oe.cls = .ref 45 ∧ oe.dict = some dd) (hd : oe.data = .fields vs) (h1 : vs[1]? = some .none)
    (h : ∀ h', Fly dd outer B e .none h' → s.heap.UpToSlots h' → Q () { s with heap := h' }) : wpAny M A (leaving env (.ref e)) Q E s := by
  unfold leaving
  refine wpAny_bind (note_first hfr hl hf he hkb hen hP hd h1 fun h₁ f₁ u₁ => flight_none f₁ fun h₂ f₂ u₂ => ?_)
  obtain ⟨a, ⟨_, _, b⟩, c⟩ := f₂
  exact h h₂ ⟨a, b, c⟩ (u₁.trans u₂)
end

def Raised (dd : Addr) (base G : Heap) (l : List Env) (e : Addr) (news : Led) (h : Heap) : Prop :=
  ∃ B, base.StaysIn B ∧ (∀ b o, G.get? b = some o → b ∉ l.filterMap (·.frame) → B.get? b = some o) ∧ (∀ q ∈ news, B.get? q.1 = some q.2 ∧ G.get? q.1 = none ∧ base.get? q.1 = none) ∧ Fly dd l B e .none h
section
variable {M : Model} {A : Around} {E : Value → Shared → Prop} {s : Shared} {base g g₂ : Heap} {outer : List Env} {L a e dd : Addr} {m : Str → Option Value} {name : Str} {scope : Scope} {cd : Value} {Q : Unit → Shared → Prop} {news : Led} {oe : Obj} {vs : Array Value}
theorem raise_first (K : Below A base outer g) (F : Fr g L s.heap m) (N : News g L s.heap news) (he : s.heap.get? e = some oe) (hge : g.get? e = none) (hne : ∀ q ∈ news, q.1 ≠ e)
    (hP : oe.cls = .ref 45 ∧ oe.dict = some dd) (hd : oe.data = .fields vs) (h1 : vs[1]? = some .none)
    (hQ : ∀ h', Raised dd base g outer e news h' → g.UpToSlots h' → Q () { s with heap := h' }) (hk : scope.kind = .function := by rfl) :
    wpAny M (A.deeper (envOf name scope L a cd)) (leaving (envOf name scope L a cd) (.ref e)) Q E s := by
  have K' := K.push (name := name) (a := a) (cd := cd) F hk
  have hsub : ∀ x, x ∈ (envOf name scope L a cd :: outer).filterMap (·.frame) → x = L ∨ x ∈ outer.filterMap (·.frame) := fun x hx => kts_mem hx
  let B := hideAll s.heap (e :: (envOf name scope L a cd :: outer).filterMap (·.frame))
  have hB : ∀ b o, s.heap.get? b = some o → b ≠ e → b ∉ (envOf name scope L a cd :: outer).filterMap (·.frame) → B.get? b = some o := fun b o q h1 h2 => hideAll_get _ q fun hm => by
    rcases List.mem_cons.mp hm with z | z
    · exact h1 z
    · exact h2 z
  have st : base.StaysIn B := fun b o q => hB b o (K'.stays b o q) (fun z => by
      have := K.stays b o q
      rw [z, hge] at this
      cases this) fun hm => by
    rw [(K'.frames.mem hm).1] at q
    cases q
  have hF : s.heap.FunFrames B (envOf name scope L a cd :: outer) := by
    have := funFrames_hide (as := e :: (envOf name scope L a cd :: outer).filterMap (·.frame)) K'.frames fun env he b hb => List.mem_cons_of_mem _ (List.mem_filterMap.mpr ⟨env, he, hb⟩)
    exact this
  refine leave_first K'.stack hF rfl he (fun b o q => of_hideAll _ q) (hideAll_none _ (List.mem_cons_self ..)) hP hd h1 fun h' f u => hQ h' ⟨B, st, fun b o q nm => ?_, fun q hq => ⟨?_, (N q hq).2.2, fresh_of_stays K.stays (N q hq).2.2⟩, f⟩ ((Heap.UpToSlots.of_keeps F.keep).trans u)
  · refine hB b o (F.keep b o q) (fun z => by rw [z, hge] at q; cases q) fun hm => ?_
    rcases hsub b hm with z | z
    · rw [z, kts_self F] at q
      cases q
    · exact nm z
  · refine hB _ _ (N q hq).1 (hne q hq) fun hm => ?_
    rcases hsub _ hm with z | z
    · exact (N q hq).2.1 z
    · obtain ⟨o, ho, _⟩ := (K.frames.mem z).2
      rw [(N q hq).2.2] at ho
      cases ho
theorem raise_next (K : Below A base outer g) (F : Fr g L g₂ m) (R : Raised dd base g₂ (envOf name scope L a cd :: outer) e news s.heap) (hsm : g₂.UpToSlots s.heap)
    (hQ : ∀ h', Raised dd base g outer e news h' → g.UpToSlots h' → Q () { s with heap := h' }) :
    wpAny M (A.deeper (envOf name scope L a cd)) (leaving (envOf name scope L a cd) (.ref e)) Q E s := by
  obtain ⟨B, hB, hBG, hl, hf⟩ := R
  refine leave_next (Around.frames_deeper K.stack) rfl hf fun h' f u => hQ h' ⟨B, hB, fun b o q nm => hBG b o (F.keep b o q) fun hm => ?_, fun q hq => ⟨(hl q hq).1, kts_none F.keep (hl q hq).2.1, (hl q hq).2.2⟩, f⟩ ((Heap.UpToSlots.of_keeps F.keep).trans (hsm.trans u))
  rcases kts_mem hm with z | z
  · rw [z, kts_self F] at q
    cases q
  · exact nm z
end
end Mine

namespace Mine
local macro_rules | `(tactic| omega) => `(tactic| lia)
section
open PySem.Builtin PySem.Builtin.ObjectAttr
abbrev toldD (w : World) (tk : Tok) (v : Value) : Obj := W.dictOf [⟨PyData.keyHash w.params (Str.ofString "told"), .str (Str.ofString "told") tk, v⟩] 1
abbrev excTold (t dd : Addr) : Obj := { cls := .ref 45, dict := some dd, data := .fields #[.ref t, .none, .none, .none, .bool false, .none] }
section
variable {w : World} {A : Around} {E : Value → Shared → Prop} {s : Shared} {h₀ : Heap} {L e t : Addr} {m : Str → Option Value} {news : Led} {v : Value}
theorem isSub45 {M : Model} {h : Heap} (X : (hd.heap_1 w.params).In h) (T : String) (hT : bmBad.contains (.type T) = true) : Looks M h (isSubtype (.ref 45) (.type T)) true := by
  intro A Q E s k q
  have hC := at45 (X.keeps k)
  obtain ⟨hh, g, d, tk, os⟩ := s
  refine wpAny_isSubtype_exc hC ?_
  have : (Value.ref 45 :: bmBad).contains (.type T) = true := by rw [List.contains_cons, hT, Bool.or_true]
  rw [this]
  exact q
theorem set_told (F : Fr h₀ L s.heap m) (X : (hd.heap_1 w.params).In s.heap) (N : News h₀ L s.heap ((e, excBad t) :: news)) (hne : ∀ p ∈ news, p.1 ≠ e)
    {Q : Unit → Shared → Prop} (hq : ∀ h' dd k tk, Fr h₀ L h' m → News h₀ L h' ((dd, toldD w tk v) :: (e, excTold t dd) :: news) → (∀ p ∈ news, p.1 < dd) → e < dd → Q () { s with heap := h', toks := k }) :
    wpAny (model PR w) A (setAttr (.ref e) (Str.ofString "told") v) Q E s := by
  have SF := PySem.F.store_Exception
  have he : s.heap.get? e = some (excBad t) := (N (e, excBad t) (.head _)).1
  have I : InstAt s.heap e (excBad t) 45 none := ⟨he, rfl, rfl, trivial⟩
  refine set_plain X I (by k_is) ?_
  generalize hs1 : ({ s with toks := s.toks + 1 } : Shared) = s1
  have he1 : s1.heap.get? e = some (excBad t) := by rw [← hs1]; exact he
  have X1 : (hd.heap_1 w.params).In s1.heap := by rw [← hs1]; exact X
  have I1 : InstAt s1.heap e (excBad t) 45 none := ⟨he1, rfl, rfl, trivial⟩
  have sub : Looks (model PR w) s1.heap (isInstance (.ref e) (.type "object")) true := I1.type.andThen (isSub45 X1 "object" (by decide))
  refine codeAny_call_builtin SF.slot.plain SF.entry (@check_slot (model PR w) _ _ s1 "object.__setattr__" "object" "__setattr__" (.ref e) [.str (Str.ofString "told") s.toks, v] [] _ SF.kind SF.split sub (SF.args (.ref e) (.str (Str.ofString "told") s.toks) v) ?_)
  have hC := at45 X1
  have hm : Looks (model PR w) s1.heap (mroOf (.ref 45)) (.ref 45 :: bmBad) := ((Looks.ld (part := none) hC).andThen .now).andThen .now
  have hl : Looks (model PR w) s1.heap (typeLookup (.ref 45) (Str.ofString "told")) none := looks_findIn X1 (by k_is)
  rw [osa_eq, refuse_eq]
  refine wpAny_bind (wpAny_bind (I1.type.here (wpAny_bind (hm.here ?_))))
  rw [refuseLoop_ref, refuseLoop_ref, SF.passes]
  refine wpAny_pure (wpAny_bind (I1.type.here (wpAny_bind (hl.here (wpAny_bind (wpAny_pure ?_))))))
  dsimp only
  have hF1 : Fr h₀ L s1.heap m := by rw [← hs1]; exact F
  have hN1 : News h₀ L s1.heap ((e, excBad t) :: news) := by rw [← hs1]; exact N
  have hq1 : ∀ h' dd k tk, Fr h₀ L h' m → News h₀ L h' ((dd, toldD w tk v) :: (e, excTold t dd) :: news) → (∀ p ∈ news, p.1 < dd) → e < dd → Q () { s1 with heap := h', toks := k } := by rw [← hs1]; exact hq
  clear hs1 hq
  have hsz : e < s1.heap.objs.size := Heap.lt_size he1
  have Fp := hF1.push (W.dictOf [] 0)
  have Np := News.push hF1 hN1 (W.dictOf [] 0)
  have U := news_upd (f := fun o : Obj => { o with dict := some s1.heap.objs.size }) (o := excBad t) (o' := excTold t s1.heap.objs.size) (pre := [(s1.heap.objs.size, W.dictOf [] 0)]) (post := news) Fp Np
    (fun p hp => by rw [List.mem_singleton.mp hp]; exact Nat.ne_of_gt hsz) hne rfl rfl
  obtain ⟨Fu, Nu⟩ := U
  have V := fun tk : Tok => news_upd (f := Obj.putName (Str.ofString "told") (PyData.keyHash w.params (Str.ofString "told")) (.str (Str.ofString "told") tk) v) (o := W.dictOf [] 0) (o' := toldD w tk v) (pre := []) (post := (e, excTold t s1.heap.objs.size) :: news) Fu Nu
    (fun p hp => nomatch hp) (fun p hp => by
      rcases List.mem_cons.mp hp with rfl | hp
      · exact Nat.ne_of_lt hsz
      · exact Nat.ne_of_lt (Heap.lt_size (hN1 p (.tail _ hp)).1)) (by rw [putName_dict]; rfl) rfl
  unfold storeInOwnDict
  refine wpAny_bind (wpAny_pure ?_)
  refine wpAny_bind ?_
  unfold ownDictForStores instanceDict
  refine wpAny_bind (wpAny_loadPart he1 ?_)
  refine wpAny_bind (wpAny_bind ?_)
  refine wpAny_load hC (wpAny_pure ?_)
  rw [if_neg (by decide)]
  dsimp only
  rw [if_neg (by decide)]
  refine wpAny_bind (wpAny_alloc ?_)
  refine wpAny_bind (wpAny_update (Heap.get?_push_of_some _ he1) ?_)
  refine wpAny_pure ?_
  dsimp only
  unfold storeInDict
  refine wpAny_bind (wpAny_pure (wpAny_bind ?_))
  unfold nsSet
  have D := (Nu (s1.heap.objs.size, W.dictOf [] 0) (.head _)).1
  refine wpAny_bind (wpAny_bind (wpAny_askSetting (wpAny_pure (wpAny_bind (wpAny_mkText (wpAny_bind (wpAny_loadPart D ?_)))))))
  dsimp only
  rw [if_neg (by decide)]
  refine wpAny_updatePart D ?_
  obtain ⟨V1, V2⟩ := V s1.toks
  have D' := (V2 (s1.heap.objs.size, toldD w s1.toks v) (.head _)).1
  refine wpAny_bind (wpAny_lookBehind D' (pastItsLine_dict (by rw [sizeLine_eq]; exact Nat.le_of_ble_eq_true rfl)) (wpAny_pure ?_))
  exact hq1 _ _ _ _ V1 V2 (fun p hp => Heap.lt_size (hN1 p (.tail _ hp)).1) hsz
end
def RaiseP (E : Value → Shared → Prop) (r : Value) (s₃ : Shared) : Prop := ∃ e dd t, r = .ref e ∧ s₃.heap.get? 45 = some clsBad ∧ s₃.heap.get? e = some (excTold t dd) ∧ E (.ref e) s₃
def RaiseB (w : World) (A : Around) (E : Value → Shared → Prop) (s₂ : Shared) (vs : List Value) : Prop :=
  s₂.heap.get? 45 = some clsBad ∧ ∃ v, vs = [v] ∧ wpAny (model PR w) A (call (.ref 45) [v]) (RaiseP E) E s₂
section
variable {w : World} {A A₀ : Around} {E : Value → Shared → Prop} {s : Shared} {base h₀ : Heap} {outer : List Env} {L a : Addr} {m mg mb : Str → Option Value} {mean : ExcName → Option Value} {cn : Str} {cs : Scope} {ccd : Value} {news : Led} {v : Value}
theorem Raise_bad {e₀ : PySem.Expr} {np cpos pos : Pos} {Q : Flow → Shared → Prop} (F : Fr h₀ L s.heap m) (X : (hd.heap_1 w.params).In h₀) (T : TopRead vw LO mg mb h₀) (hh : A.handled = none)
    (h : wpAny (model PR w) A (spliced (backTo cpos (starEach [e₀] (envOf cn cs L a ccd)))) (fun vs s₂ => RaiseB w A E s₂ vs) E s)
    (he : starEach [e₀] (envOf cn cs L a ccd) = (false, eval e₀ (envOf cn cs L a ccd)) :: starEach [] (envOf cn cs L a ccd) := by rfl)
    (hk : cs.kind = .function := by rfl) (hx : (envOf cn cs L a ccd).kindOf (Str.ofString "BadLayout") = some .globalImplicit := by rfl) :
    wpAny (model PR w) A (exec (.Raise (some (.Call (.Name (Str.ofString "BadLayout") np) [e₀] [] cpos)) none pos) (envOf cn cs L a ccd)) Q E s := by
  have hcB : (Value.ref 45 :: bmBad).contains (.type "BaseException") = true := by decide
  rw [arm_exec_Raise]
  refine wpAny_bind (wpAny_standAt ?_)
  have key : wpAny (model PR w) A (eval (.Call (.Name (Str.ofString "BadLayout") np) [e₀] [] cpos) (envOf cn cs L a ccd)) (fun v s₁ => ∃ e dd t, v = .ref e ∧ s₁.heap.get? 45 = some clsBad ∧ s₁.heap.get? e = some (excTold t dd) ∧ E (.ref e) s₁) E s := by
    refine wpAny_Call_ofName ?_
    refine name_K F X T (by k_is) ?_ hk hx (by decide)
    unfold callWith
    refine wpAny_bind (wpAny_holding ?_)
    rw [he] at h ⊢
    refine Calls.evalArgs_plain (wpAny_mono h (fun vs s₂ h₂ => ?_) fun _ _ x => x)
    refine wpAny_bind (wpAny_standAt ?_)
    obtain ⟨hC, v, rfl, h₂⟩ := h₂
    obtain ⟨hp, g, d, tk, os⟩ := s₂
    show wpAny _ _ _ _ _ _
    refine wpAny_bind (wpAny_keeperOf_exc hC ?_)
    have hm : ((backTo cpos ((false, eval e₀ (envOf cn cs L a ccd)) :: starEach [] (envOf cn cs L a ccd))).any fun x => x.fst) = false := rfl
    rw [hm]
    dsimp only [keywordEach, backToKw, List.map_nil, List.any_nil, Bool.or_false, List.nil_append]
    refine wpAny_bind (wpAny_mono h₂ (fun r s₃ h₃ => wpAny_bind (wpAny_holding (wpAny_point (wpAny_pure h₃)))) fun _ _ x => x)
  unfold raiseStmt
  refine wpAny_bind ?_
  refine wpAny_bind (wpAny_mono key (fun v s₁ h₁ => ?_) fun _ _ x => x)
  refine wpAny_bind (wpAny_standAt (wpAny_pure ?_))
  obtain ⟨e, dd, t, rfl, hC, hE₀, hE⟩ := h₁
  obtain ⟨hp, g, d, tk, os⟩ := s₁
  repeat (first | with_reducible refine wpAny_loadPart_at hE₀ ?_ | with_reducible refine wpAny_loadPart_at hC ?_ | (with_reducible refine wpAny_isSubtype_exc hC ?_; rw [hcB]) | wp_step)
  exact wpAny_raiseNew_none hh hE
end
theorem words_X30 : True := by
  k_with_none
  k_with "setAttr ref" => (k_here; k_dflt (refine' set_told ?k1w9 ?k2w9 ?k3w9 ?k4w9 ?_; (case k1w9 => k_asm); (case k2w9 => k_in); (case k3w9 => k_asm); (case k4w9 => k_asm); k_whole); intro h'w dd'w k'w tk'w F'w N'w l1w l2w)
  trivial
section
variable {w : World} {A₀ : Around} {E : Value → Shared → Prop} {s : Shared} {base h₀ : Heap} {outer : List Env} {L a : Addr} {m mg mb : Str → Option Value} {mean : ExcName → Option Value} {cn : Str} {cs : Scope} {ccd : Value} {news : Led} {v : Value}
theorem raise_fin {tk : Tok} {t e dd : Addr} {h' : Heap} {k : Nat} {x : Addr × Obj} (X : (hd.heap_1 w.params).In h₀) (kF : Fr h₀ L h' m) (kN : News h₀ L h' ((dd, toldD w tk v) :: (e, excTold t dd) :: x :: news)) (he0 : h₀.get? e = none)
    (lt0 : ∀ p ∈ news, p.1 < e) (l2 : e < dd)
    (hq : ∀ e dd t tk k h', Fr h₀ L h' m → News h₀ L h' ((dd, toldD w tk v) :: news) → h'.get? e = some (excTold t dd) → h₀.get? e = none → (∀ p ∈ (dd, toldD w tk v) :: news, p.1 ≠ e) → E (.ref e) { s with heap := h', toks := k }) :
    RaiseP E (.ref e) { s with heap := h', toks := k } := by
  refine ⟨e, dd, t, rfl, at45 (X.keeps kF.keep), (kN _ (.tail _ (.head _))).1, hq e dd t tk k h' kF (fun p hp => ?_) (kN _ (.tail _ (.head _))).1 he0 fun p hp => ?_⟩
  · rcases List.mem_cons.mp hp with rfl | hp
    · exact kN _ (.head _)
    · exact kN _ (.tail _ (.tail _ (.tail _ hp)))
  · rcases List.mem_cons.mp hp with rfl | hp
    · exact Nat.ne_of_gt l2
    · exact Nat.ne_of_lt (lt0 p hp)
theorem raise_made (B : Below A₀ base outer h₀) (F : Fr h₀ L s.heap m) (X : (hd.heap_1 w.params).In h₀) (N : News h₀ L s.heap news) (T : Top vw LO mean mg mb h₀) (hk : cs.kind = .function) (hdp : A₀.depth ≤ 990)
    (hq : ∀ e dd t tk k h', Fr h₀ L h' m → News h₀ L h' ((dd, toldD w tk v) :: news) → h'.get? e = some (excTold t dd) → h₀.get? e = none → (∀ p ∈ (dd, toldD w tk v) :: news, p.1 ≠ e) → E (.ref e) { s with heap := h', toks := k }) :
    RaiseB w (A₀.deeper (envOf cn cs L a ccd)) E s [v] := by
  refine ⟨at45 (X.keeps F.keep), v, rfl, ?_⟩
  have N1 := News.push F N { cls := .type "tuple", data := .seq [v].toArray }
  have F1 := F.push { cls := .type "tuple", data := .seq [v].toArray }
  have N2 := News.push F1 N1 (excBad s.heap.objs.size)
  have F2 := F1.push (excBad s.heap.objs.size)
  have lt0 : ∀ p ∈ news, p.1 < s.heap.objs.size := fun p hp => Heap.lt_size (N p hp).1
  have hsz : (s.heap.push { cls := .type "tuple", data := .seq [v].toArray }).objs.size = s.heap.objs.size + 1 := Heap.size_push ..
  rw [hsz] at N2
  have he0 : h₀.get? (s.heap.objs.size + 1) = none := (N2 (s.heap.objs.size + 1, excBad s.heap.objs.size) (.head _)).2.2
  have hL : L < s.heap.objs.size := F.ns.lt
  obtain ⟨hh, g, d, tk, os⟩ := s
  refine bad_call (X.keeps F.keep) ?_
  have X0 := X
  have T0 := T
  have hfr : ((A₀.deeper (envOf cn cs L a ccd)).under (.builtin "type.__call__" ⟨.ref 45 :: [v], []⟩)).frames = some (envOf cn cs L a ccd :: outer) := Around.frames_deeper B.stack
  generalize hs : (⟨hBad hh [v], g, d, tk, os⟩ : Shared) = s2
  have F2' : Fr h₀ L s2.heap m := by rw [← hs]; exact F2
  have N2' : News h₀ L s2.heap ((hh.objs.size + 1, excBad hh.objs.size) :: (hh.objs.size, { cls := .type "tuple", data := .seq [v].toArray }) :: news) := by rw [← hs]; exact N2
  have hne : ∀ p ∈ (hh.objs.size, ({ cls := .type "tuple", data := .seq [v].toArray } : Obj)) :: news, p.1 ≠ hh.objs.size + 1 := fun p hp => by
    rcases List.mem_cons.mp hp with rfl | hp
    · exact Nat.ne_of_lt (Nat.lt_succ_self _)
    · exact Nat.ne_of_lt (Nat.lt_succ_of_lt (lt0 p hp))
  have hq2 : ∀ e dd t tk k h', Fr h₀ L h' m → News h₀ L h' ((dd, toldD w tk v) :: news) → h'.get? e = some (excTold t dd) → h₀.get? e = none → (∀ p ∈ (dd, toldD w tk v) :: news, p.1 ≠ e) → E (.ref e) { s2 with heap := h', toks := k } := by rw [← hs]; exact hq
  clear hs hq F1 F2 N1 N2 F N
  k_dflt (refine' code_def ?k1 ?k2 ?k3 ?k4 ?k5 ?kA ?kF ?kK ?k6 ?k7 ?k8 ?k9 ?kB ?_ ?c2 ?c3 ?c4 ?c5; (case kA => exact hfr); (case kF => exact rfl); (case kK => assumption); (case k1 => k_asm); (case k2 => k_asm); (case k3 => k_asm); (case k4 => k_asm); (case k5 => k_asm); (case k6 => k_is); (case k7 => k_is); (case k8 => (simp only [depth_under_make, depth_deeper, recursionLimit]; omega)); (case k9 => first | exact BindsTo.of_eq rfl | exact binds_K (by k_in) rfl (by k_is) rfl rfl rfl); (case c5 => decide); (case kB => exact locs rfl); (case c2 => exact rfl); (case c3 => exact rfl); (case c4 => exact rfl); k_whole; intro g' L' h' FG' F' N' B' X' T'; (try dsimp only); (try k_fold))
  k_steps
  (with_reducible rename Fr _ _ _ _ => kF)
  (with_reducible rename News _ _ _ _ => kN)
  exact raise_fin X0 kF kN he0 (fun p hp => Nat.lt_succ_of_lt (lt0 p hp)) (by assumption) hq2
end
end
end Mine

namespace Mine
local macro_rules | `(tactic| omega) => `(tactic| lia)
section
open PySem.Builtin PySem.Builtin.ObjectAttr
section
variable {w : World} {A : Around} {E : Value → Shared → Prop} {s : Shared} {e dd : Addr} {oe : Obj} {vs : Array Value} {tk : Tok} {n : Int} {u : Tok}
theorem get_told {expr : Bool} {Q : Value → Shared → Prop} (X : (hd.heap_1 w.params).In s.heap) (he : s.heap.get? e = some oe) (hc : oe.cls = .ref 45) (hd' : oe.dict = some dd) (hf : oe.data = .fields vs) (hdd : s.heap.get? dd = some (toldD w tk (.int n u)))
    (h : Q (.int n u) { s with toks := s.toks + 1 }) : wpAny (model PR w) A (getAttr (.ref e) (Str.ofString "told") expr) Q E s := by
  have FB := PySem.F.attrBase_Exception
  unfold getAttr
  refine wpAny_bind (wpAny_mkText ?_)
  generalize hs1 : ({ s with toks := s.toks + 1 } : Shared) = s1 at h ⊢
  have he1 : s1.heap.get? e = some oe := by rw [← hs1]; exact he
  have hdd1 : s1.heap.get? dd = some (toldD w tk (.int n u)) := by rw [← hs1]; exact hdd
  have X1 : (hd.heap_1 w.params).In s1.heap := by rw [← hs1]; exact X
  clear hs1
  have hC := at45 X1
  have hno : notCls oe = true := by
    obtain ⟨oc, od, odt, osl⟩ := oe
    cases hf
    rfl
  have I : InstAt s1.heap e oe 45 (some (toldD w tk (.int n u))) := ⟨he1, hc, hno, by rw [hd']; exact hdd1⟩
  have ht : Looks (model PR w) s1.heap (typeOf (.ref e)) (.ref 45) := I.type
  have l1 : Looks (model PR w) s1.heap (typeLookup (.ref 45) (Str.ofString "__getattribute__")) (some (.builtin "BaseException.__getattribute__")) := looks_findIn X1 (by k_is)
  have l2 : Looks (model PR w) s1.heap (typeLookup (.ref 45) (Str.ofString "__getattr__")) none := looks_findIn X1 (by k_is)
  have l3 : Looks (model PR w) s1.heap (typeLookup (.ref 45) (Str.ofString "told")) none := looks_findIn X1 (by k_is)
  unfold getAttrBy
  refine wpAny_holding (wpAny_bind (ht.at (wpAny_bind (l1.at ?_))))
  dsimp only
  rw [if_neg (by decide +kernel)]
  unfold getAttrByItsOwn hookBefore
  refine wpAny_bind ?_
  rw [if_pos (show onTheHeap (Value.ref 45) = true from rfl)]
  refine l2.at ?_
  refine wpAny_bind (wpAny_attempt (wpAny_holding ?_))
  unfold callGetattribute
  rw [if_neg (by cases expr <;> exact Bool.false_ne_true)]
  unfold boundAndCalled
  rw [FB.ga.bind]
  refine wpAny_bind (wpAny_pure ?_)
  dsimp only
  have sub : Looks (model PR w) s1.heap (isInstance (.ref e) (.type "BaseException")) true := ht.andThen (isSub45 X1 "BaseException" (by decide))
  have hk : builtinKind "BaseException.__getattribute__" = some .slot := by decide +kernel
  have hsplit : splitId "BaseException.__getattribute__" = some ("BaseException", "__getattribute__") := by decide +kernel
  refine wpAny_call (codeAny_call_builtin FB.ga.plain F.entry_bexc_ga (@check_slot (model PR w) _ _ s1 "BaseException.__getattribute__" "BaseException" "__getattribute__" (.ref e) [.str (Str.ofString "told") s.toks] [] _ hk hsplit sub (F.args_bexc_ga (.ref e) (.str (Str.ofString "told") s.toks)) ?_))
  dsimp only [List.cons_append, List.nil_append]
  unfold Builtin.«object.__getattribute__»
  refine wpAny_bind (wpAny_of_eq (a := (Value.ref e, [Value.str (Str.ofString "told") s.toks])) (by rfl) ?_)
  dsimp only
  refine wpAny_bind (wpAny_pure (wpAny_bind (ht.at (wpAny_bind ?_))))
  unfold find
  refine wpAny_bind (l3.at (wpAny_bind (wpAny_pure (wpAny_bind (wpAny_pure ?_)))))
  dsimp only
  unfold ownThenClass inOwnDict ObjectAttr.ownDict instanceDict
  refine wpAny_bind (wpAny_bind (wpAny_bind (wpAny_loadPart he1 ?_)))
  have hn : ∀ M (α : Type) (A : Around) (Q : α → Shared → Prop) E s (x : PySem.ClassData → Sem α) (y : Sem α), wpAny M A y Q E s → wpAny M A (match oe.data with | .cls c => x c | _ => y) Q E s := fun M α A Q E s x y z => by rw [hf]; exact z
  refine hn _ _ _ _ _ _ _ _ ?_
  refine wpAny_bind (wpAny_loadPart he1 ?_)
  rw [hc]
  dsimp only
  refine wpAny_bind (wpAny_bind (wpAny_load hC (wpAny_pure ?_)))
  rw [if_neg (by decide)]
  rw [hd']
  refine wpAny_pure ?_
  unfold inDict nsGet
  refine wpAny_bind (wpAny_loadPart hdd1 ?_)
  rw [nsLook_of (show lookIn (Str.ofString "told") (toldD w tk (.int n u)) = some (some (.int n u)) from by
    rw [lookIn_dict]
    rfl)]
  refine wpAny_pure (wpAny_bind (wpAny_rule (wpAny_pure (wpAny_pure ?_))))
  exact wpAny_pure h
end
end
end Mine

namespace Mine
local macro_rules | `(tactic| omega) => `(tactic| lia)
def Stop (p : Prop) : Prop := p
theorem stop_of {p : Prop} (h : Stop p) : p := h
/-- a contract: the call of the def at f with these arguments, over a ledger, gives K's values and ledgers -/
def CT (w : World) (mean : ExcName → Option Value) (mg mb : Str → Option Value) (f : Addr) (args : List Value) (lim : Nat) (news : Led) (K : Value → Led → Prop) : Prop :=
  ∀ (dp un : Nat) (gd : Option (List Code)) (cn : Str) (cs : Scope) (a : Addr) (ccd : Value) (cl : List (Str × Addr)) (outer : List Env) (A₀ : Around) (base h₀ : Heap) (L : Addr) (m : Str → Option Value) (s : Shared) (Q E : Value → Shared → Prop),
    Below A₀ base outer h₀ → Fr h₀ L s.heap m → (hd.heap_1 w.params).In h₀ → News h₀ L s.heap news → Top vw LO mean mg mb h₀ → cs.kind = .function → dp + lim ≤ 900 → un + 10 * lim ≤ 9000 →
    (∀ r news' h' tk', Fr h₀ L h' m → News h₀ L h' news' → K r news' → Q r { s with heap := h', toks := tk' }) →
    wpAny (model PR w) (ktrTop dp un gd cn cs L a ccd cl outer) (call (.ref f) args) Q E s
/-- a contract of a def that may raise BadLayout(n): then KR n, and the entries of keep stand -/
def CTR (w : World) (mean : ExcName → Option Value) (mg mb : Str → Option Value) (f : Addr) (args : List Value) (lim : Nat) (news : Led) (K : Value → Led → Prop) (KR : Int → Prop) (keep : Led) : Prop :=
  ∀ (dp un : Nat) (gd : Option (List Code)) (cn : Str) (cs : Scope) (a : Addr) (ccd : Value) (cl : List (Str × Addr)) (outer : List Env) (A₀ : Around) (base h₀ : Heap) (L : Addr) (m : Str → Option Value) (s : Shared) (Q E : Value → Shared → Prop),
    Below A₀ base outer h₀ → Fr h₀ L s.heap m → (hd.heap_1 w.params).In h₀ → News h₀ L s.heap news → Top vw LO mean mg mb h₀ → cs.kind = .function → dp + lim ≤ 900 → un + 10 * lim ≤ 9000 →
    (∀ r news' h' tk', Fr h₀ L h' m → News h₀ L h' news' → K r news' → Q r { s with heap := h', toks := tk' }) →
    (∀ e dd gg tk n u newsR h' tk', KR n → Fr h₀ L gg m → Raised dd base gg (envX cn cs L a ccd cl :: outer) e newsR h' → (dd, toldD w tk (.int n u)) ∈ newsR → (∀ q ∈ keep, q ∈ newsR) → gg.UpToSlots h' → E (.ref e) { s with heap := h', toks := tk' }) →
    wpAny (model PR w) (ktrTop dp un gd cn cs L a ccd cl outer) (call (.ref f) args) Q E s
section
variable {w : World} {mean : ExcName → Option Value} {mg mb : Str → Option Value} {f : Addr} {args : List Value} {lim : Nat} {news : Led} {K : Value → Led → Prop} {KR : Int → Prop} {keep : Led}
  {dp un : Nat} {gd : Option (List Code)} {cn : Str} {cs : Scope} {a : Addr} {ccd : Value} {cl : List (Str × Addr)} {outer : List Env} {A₀ : Around} {base h₀ : Heap} {L : Addr} {m : Str → Option Value} {s : Shared} {Q E : Value → Shared → Prop}
theorem CT.use (C : CT w mean mg mb f args lim news K) (B : Below A₀ base outer h₀) (F : Fr h₀ L s.heap m) (X : (hd.heap_1 w.params).In h₀) (N : News h₀ L s.heap news) (T : Top vw LO mean mg mb h₀) (hk : cs.kind = .function) (hd : dp + lim ≤ 900) (hu : un + 10 * lim ≤ 9000)
    (hQ : ∀ r news' h' tk', Fr h₀ L h' m → News h₀ L h' news' → K r news' → Q r { s with heap := h', toks := tk' }) :
    wpAny (model PR w) (ktrTop dp un gd cn cs L a ccd cl outer) (call (.ref f) args) Q E s := C _ _ _ _ _ _ _ _ _ _ _ _ _ _ _ _ _ B F X N T hk hd hu hQ
theorem CTR.use (C : CTR w mean mg mb f args lim news K KR keep) (B : Below A₀ base outer h₀) (F : Fr h₀ L s.heap m) (X : (hd.heap_1 w.params).In h₀) (N : News h₀ L s.heap news) (T : Top vw LO mean mg mb h₀) (hk : cs.kind = .function) (hd : dp + lim ≤ 900) (hu : un + 10 * lim ≤ 9000)
    (hQ : ∀ r news' h' tk', Fr h₀ L h' m → News h₀ L h' news' → K r news' → Q r { s with heap := h', toks := tk' })
    (hE : ∀ e dd gg tk n u newsR h' tk', KR n → Fr h₀ L gg m → Raised dd base gg (envX cn cs L a ccd cl :: outer) e newsR h' → (dd, toldD w tk (.int n u)) ∈ newsR → (∀ q ∈ keep, q ∈ newsR) → gg.UpToSlots h' → E (.ref e) { s with heap := h', toks := tk' }) :
    wpAny (model PR w) (ktrTop dp un gd cn cs L a ccd cl outer) (call (.ref f) args) Q E s := C _ _ _ _ _ _ _ _ _ _ _ _ _ _ _ _ _ B F X N T hk hd hu hQ hE
end
theorem unr_keep {h₀ : Heap} {L I : Addr} {it : Obj} {rest : (Str → Option Value) → List (Addr × Obj) → Prop} {s₁ : Shared} {h' : Heap} {tk : Nat} {m' : Str → Option Value} {news' : Led} (F : Fr h₀ L h' m') (N : News h₀ L h' ((I, it) :: news'))
    (off : ∀ p ∈ news', p.1 ≠ I) (r : rest m' news') : UnrEnd h₀ L s₁ I it rest { s₁ with heap := h', toks := tk } := UnrEnd.intro F N news' (fun _ h => h) off r
theorem News.subs {h₀ h : Heap} {L : Addr} {news news' : Led} (N : News h₀ L h news) (hs : ∀ p ∈ news', p ∈ news) : News h₀ L h news' := fun p hp => N p (hs p hp)
abbrev rdD (w : World) (k1 k2 k3 : Tok) (o : List UInt8) (p d : Int) (t1 t2 t3 : Tok) : Obj :=
  W.dictOf [⟨PyData.keyHash w.params (Str.ofString "octets"), .str (Str.ofString "octets") k1, .bytes o.toArray t1⟩, ⟨PyData.keyHash w.params (Str.ofString "at"), .str (Str.ofString "at") k2, .int p t2⟩, ⟨PyData.keyHash w.params (Str.ofString "depth"), .str (Str.ofString "depth") k3, .int d t3⟩] 3
/-- the dict of a LayoutReading: its octets, its place, its depth -/
def IsRd (w : World) (D : Obj) (o : List UInt8) (p d : Int) : Prop := ∃ k1 k2 k3 t1 t2 t3, D = rdD w k1 k2 k3 o p d t1 t2 t3
theorem room_of {A : Around} {d K lim : Nat} (h : d + K ≤ 900) (hk : lim + 1 ≤ K) (e : A.depth = d := by rfl) : A.depth + 1 + lim ≤ 900 := by omega
theorem units_of {A : Around} {u K lim : Nat} (h : u + 10 * K ≤ 9000) (hk : lim + 1 ≤ K) (e : A.units = u := by rfl) : A.units + 3 + 10 * lim ≤ 9000 := by omega
section
variable {M : Model} {A : Around} {Q : Unit → Shared → Prop} {E : Value → Shared → Prop} {s : Shared} {env : Env} {x : Str}
theorem tok_intA {n : Int} {a b : Nat} (h : ∀ t, wpAny M A (storeName env x (.int n t)) Q E s) : wpAny M A (storeName env x (.int n (a + b))) Q E s := h _
theorem tok_intS {n : Int} {z : Shared} (h : ∀ t, wpAny M A (storeName env x (.int n t)) Q E s) : wpAny M A (storeName env x (.int n z.toks)) Q E s := h _
theorem tok_bytA {n : Array UInt8} {a b : Nat} (h : ∀ t, wpAny M A (storeName env x (.bytes n t)) Q E s) : wpAny M A (storeName env x (.bytes n (a + b))) Q E s := h _
theorem tok_bytS {n : Array UInt8} {z : Shared} (h : ∀ t, wpAny M A (storeName env x (.bytes n t)) Q E s) : wpAny M A (storeName env x (.bytes n z.toks)) Q E s := h _
end
section
variable {M : Model} {A : Around} {Q : Value → Shared → Prop} {E : Value → Shared → Prop} {s : Shared} {l : Addr}
theorem tok_appA {n : Int} {a b : Nat} (h : ∀ t, wpAny M A (call (.builtin "list.append") [.ref l, .int n t]) Q E s) : wpAny M A (call (.builtin "list.append") [.ref l, .int n (a + b)]) Q E s := h _
theorem tok_appS {n : Int} {z : Shared} (h : ∀ t, wpAny M A (call (.builtin "list.append") [.ref l, .int n t]) Q E s) : wpAny M A (call (.builtin "list.append") [.ref l, .int n z.toks]) Q E s := h _
end
section
variable {M : Model} {A : Around} {Q : Unit → Shared → Prop} {E : Value → Shared → Prop} {s : Shared} {x : Str} {h₀ : Heap} {L a : Addr} {m : Str → Option Value} {cn : Str} {cs : Scope} {ccd v : Value} {cl : List (Str × Addr)} {news : Led}
/-- a name stored; the frame's map gets a name of its own (a let), the token too -/
theorem storeX_M (F : Fr h₀ L s.heap m) (N : News h₀ L s.heap news)
    (h : let m9 : Str → Option Value := fun y => if y = x then some v else m y; ∀ (h' : Heap) (tk : Nat), Fr h₀ L h' m9 → News h₀ L h' news → Q () { s with heap := h', toks := tk })
    (hk : cs.kind = .function := by rfl) (hx : (envX cn cs L a ccd cl).kindOf x = some .local := by rfl) : wpAny M A (storeName (envX cn cs L a ccd cl) x v) Q E s :=
  storeX_L F N (fun h' F' N' => h h' _ F' N') hk hx
end
theorem fold_m {h₀ : Heap} {L : Addr} {h : Heap} {m : Str → Option Value} {P : Prop} (F : Fr h₀ L h m) (k : let m9 := m; Fr h₀ L h m9 → P) : P := k F
theorem fold_Q {α : Type} {M : Model} {A : Around} {t : Sem α} {Q : α → Shared → Prop} {E : Value → Shared → Prop} {s : Shared} (k : let q9 := Q; let e9 := E; wpAny M A t q9 e9 s) : wpAny M A t Q E s := k
theorem fold_Q1 {α : Type} {M : Model} {A : Around} {t : Sem α} {Q : α → Shared → Prop} {E : Value → Shared → Prop} {s : Shared} (k : let q9 := Q; wpAny M A t q9 E s) : wpAny M A t Q E s := k
/-- what a contract gives back is taken apart ahead of a goal with a name of its own -/
theorem use3 {FR : Heap → Prop} {NW : Heap → Led → Prop} {K : Value → Led → Prop} {G : Value → Heap → Nat → Prop} (k : ∀ h' tk', FR h' → (let p : Value → Led → Prop := fun r n => NW h' n → G r h' tk'; ∀ r n, K r n → p r n)) :
    ∀ r n h' tk', FR h' → NW h' n → K r n → G r h' tk' := fun r n h' tk' F N q => k h' tk' F r n q N
theorem eq_rn {P : Value → Led → Prop} {r v : Value} {n N : Led} (e : r = v) (e' : n = N) (k : P v N) : P r n := e ▸ e' ▸ k
theorem eq_n {P : Value → Led → Prop} {r : Value} {n N : Led} (e' : n = N) (k : P r N) : P r n := e' ▸ k
theorem isRd_mk {w : World} {k1 k2 k3 : Tok} {o : List UInt8} {p d : Int} {t1 t2 t3 : Tok} : IsRd w (rdD w k1 k2 k3 o p d t1 t2 t3) o p d := ⟨_, _, _, _, _, _, rfl⟩
theorem isRd_all {w : World} {o : List UInt8} {p d : Int} {P : Obj → Prop} (k : ∀ k1 k2 k3 t1 t2 t3, P (rdD w k1 k2 k3 o p d t1 t2 t3)) : ∀ D, IsRd w D o p d → P D := by
  rintro D ⟨k1, k2, k3, t1, t2, t3, rfl⟩
  exact k k1 k2 k3 t1 t2 t3
section
variable {prog : Program} {w : World} {A : Around} {E Q : Value → Shared → Prop} {s : Shared} {K : Frag} {b C dx L a : Addr} {h₀ : Heap} {m : Str → Option Value} {news : Led} {es : List DictEntry} {n : Nat} {x at9 : Str} {xp pos : Pos} {v ccd : Value} {cn : Str} {cs : Scope} {cl : List (Str × Addr)} {sl : Array (Option Value)}
/-- an attribute of a named object, from its own dict -/
theorem own_L {av : Option Value} (F : Fr h₀ L s.heap m) (X₀ : K.In h₀) (hv : m x = some (.ref b)) (N : News h₀ L s.heap news) (h1 : (b, (⟨.ref C, some dx, .plain, sl⟩ : Obj)) ∈ news) (h2 : (dx, dictOf es n) ∈ news) (hg : plainGet K C at9 = true) (hh : hasDictIn K C = true)
    (ha : findIn K (.ref C) at9 = some av) (hn : noGet K av = true) (hl : getL at9 es = some (some v)) (hd : handedIn v = true) (h : Q v { s with toks := s.toks + 1 })
    (hk : cs.kind = .function) (hx : (envX cn cs L a ccd cl).kindOf x = some .local) (hq : (x == ("__debug__" : Str)) = false) :
    wpAny (model prog w) A (eval (.Attribute (.Name x xp) at9 pos) (envX cn cs L a ccd cl)) Q E s :=
  Attribute_Name_ (nameX_L F hv (get_own F X₀ (InstAt.of_news N h1 h2) hg hh ha hn hl hd h) hk hx hq)
end
def JQ (h₀ : Heap) (L : Addr) (m : Str → Option Value) (news : Led) (s : Shared) (b : Bool) (s' : Shared) : Prop := b = false ∧ ∃ h' tk', s' = { s with heap := h', toks := tk' } ∧ Fr h₀ L h' m ∧ News h₀ L h' news
theorem JQ.mk {h₀ : Heap} {L : Addr} {m : Str → Option Value} {news : Led} {s : Shared} {h' : Heap} {tk' : Nat} (F : Fr h₀ L h' m) (N : News h₀ L h' news) : JQ h₀ L m news s false { s with heap := h', toks := tk' } := ⟨rfl, _, _, rfl, F, N⟩
theorem join_test {M : Model} {A : Around} {t : Sem Bool} {Q : Bool → Shared → Prop} {E : Value → Shared → Prop} {s : Shared} {h₀ : Heap} {L : Addr} {m : Str → Option Value} {news : Led} (_F : Fr h₀ L s.heap m) (_N : News h₀ L s.heap news)
    (h : wpAny M A t (JQ h₀ L m news s) E s)
    (k : ∀ h' tk', Fr h₀ L h' m → News h₀ L h' news → Q false { s with heap := h', toks := tk' }) : wpAny M A t Q E s :=
  wpAny_mono h (fun b s' ⟨e, h', tk', es, F, N⟩ => by subst e es; exact k h' tk' F N) fun _ _ x => x
end Mine

namespace Mine
local macro_rules | `(tactic| omega) => `(tactic| lia)
section
open PyProof.V PySem.Builtin
theorem cut_ij (l : List UInt8) (a b : Nat) : (l.drop (min a l.length)).take (min b l.length - min a l.length) = (l.take b).drop a := by
  apply List.ext_getElem?
  intro k
  rw [List.getElem?_take, List.getElem?_drop, List.getElem?_drop, List.getElem?_take]
  by_cases ha : a ≤ l.length
  · have e1 : min a l.length = a := by omega
    rw [e1]
    by_cases hk : a + k < min b l.length
    · rw [if_pos (by omega), if_pos (by omega)]
    · rw [if_neg (by omega)]
      by_cases hb : a + k < b
      · rw [if_pos hb, List.getElem?_eq_none (by omega)]
      · rw [if_neg hb]
  · rw [if_neg (by omega)]
    by_cases hb : a + k < b
    · rw [if_pos hb, List.getElem?_eq_none (by omega)]
    · rw [if_neg hb]
theorem cut_i (l : List UInt8) (a : Nat) : (l.drop (min a l.length)).take (l.length - min a l.length) = l.drop a := by
  have := cut_ij l a l.length
  rw [Nat.min_self, List.take_length] at this
  exact this
theorem cut_j (l : List UInt8) (b : Nat) : l.take (min b l.length) = l.take b := by
  have := cut_ij l 0 b
  rw [Nat.zero_min, List.drop_zero, Nat.sub_zero, List.drop_zero] at this
  exact this
section
variable {prog : Program} {w : World} {A : Around} {E : Value → Shared → Prop} {s : Shared} {value slice : PySem.Expr} {l : List UInt8} {t : Tok} {h₀ : Heap} {L : Addr} {m : PySem.Str → Option Value} {news : Led} {Q : Value → Shared → Prop}
theorem bslice {vl vu : Value} {lo hi : Option Int} {r : List UInt8} (hF : Fr h₀ L s.heap m) (hN : News h₀ L s.heap news) (hl : IsPart vl lo) (hu : IsPart vu hi)
    (he : (l.drop (lo.elim 0 (clipAt l.length))).take (hi.elim l.length (clipAt l.length) - lo.elim 0 (clipAt l.length)) = r) (hz : l.length ≤ 100000)
    (h : ∀ h' t' k, Fr h₀ L h' m → News h₀ L h' news → Q (.bytes r.toArray t') { s with heap := h', toks := k })
    (hs : subscripted slice false (.bytes l.toArray t) (.ref s.heap.objs.size) = operate [.ref s.heap.objs.size, .bytes l.toArray t] (getItem (.bytes l.toArray t) (.ref s.heap.objs.size)) := by with_unfolding_all rfl)
    (ht : ∀ r, letTemporaryGo value (.bytes l.toArray t) r = pure () := by intro _; with_unfolding_all rfl) :
    wpAny (model prog w) A (subscriptTail value slice (.bytes l.toArray t) (.ref s.heap.objs.size)) Q E { s with heap := s.heap.push { cls := .type "slice", data := .fields #[vl, vu, .none] } } := by
  have hp : KBy.picked l.toArray lo hi = r.toArray := by
    rw [KBc.picked_eq]
    exact congrArg List.toArray he
  exact tail_of_ItemOn ⟨"bytes", _, FB.slot_bytes_getitem.lookup, typeIs_bytes _ _ _, getItem_meets (typeIs_bytes _ _ _) (by decide) FB.slot_bytes_getitem FB.entry_bytes_getitem (FB.args_bytes_getitem_2 _ _) (KBc.meets_slice2 l.toArray t _ hl hu)
    ⟨Heap.IsSliceOf.new _ _ _ _, Nat.le_trans (KBc.size_picked_le l.toArray lo hi) (by rw [sizeLine_eq, List.size_toArray]; omega), fun t' k => by rw [hp]; exact h _ _ _ (hF.push _) (News.pushKeep hN _)⟩⟩ hs ht
theorem bslice_ij {i j : Int} {ti tj : Tok} {r : List UInt8} (hF : Fr h₀ L s.heap m) (hN : News h₀ L s.heap news) (h0 : 0 ≤ i) (h1 : 0 ≤ j) (hz : l.length ≤ 100000) (e : (l.take j.toNat).drop i.toNat = r)
    (h : ∀ h' t' k, Fr h₀ L h' m → News h₀ L h' news → Q (.bytes r.toArray t') { s with heap := h', toks := k })
    (hs : subscripted slice false (.bytes l.toArray t) (.ref s.heap.objs.size) = operate [.ref s.heap.objs.size, .bytes l.toArray t] (getItem (.bytes l.toArray t) (.ref s.heap.objs.size)) := by with_unfolding_all rfl)
    (ht : ∀ r, letTemporaryGo value (.bytes l.toArray t) r = pure () := by intro _; with_unfolding_all rfl) :
    wpAny (model prog w) A (subscriptTail value slice (.bytes l.toArray t) (.ref s.heap.objs.size)) Q E { s with heap := s.heap.push { cls := .type "slice", data := .fields #[.int i ti, .int j tj, .none] } } := by
  subst e
  refine bslice hF hN (.int i ti) (.int j tj) ?_ hz h hs ht
  obtain ⟨a, rfl⟩ := Int.eq_ofNat_of_zero_le h0
  obtain ⟨b, rfl⟩ := Int.eq_ofNat_of_zero_le h1
  simp only [Option.elim, clipAt_nat, Int.toNat_natCast]
  exact cut_ij l a b
theorem bslice_j {j : Int} {tj : Tok} {r : List UInt8} (hF : Fr h₀ L s.heap m) (hN : News h₀ L s.heap news) (h1 : 0 ≤ j) (hz : l.length ≤ 100000) (e : l.take j.toNat = r)
    (h : ∀ h' t' k, Fr h₀ L h' m → News h₀ L h' news → Q (.bytes r.toArray t') { s with heap := h', toks := k })
    (hs : subscripted slice false (.bytes l.toArray t) (.ref s.heap.objs.size) = operate [.ref s.heap.objs.size, .bytes l.toArray t] (getItem (.bytes l.toArray t) (.ref s.heap.objs.size)) := by with_unfolding_all rfl)
    (ht : ∀ r, letTemporaryGo value (.bytes l.toArray t) r = pure () := by intro _; with_unfolding_all rfl) :
    wpAny (model prog w) A (subscriptTail value slice (.bytes l.toArray t) (.ref s.heap.objs.size)) Q E { s with heap := s.heap.push { cls := .type "slice", data := .fields #[.none, .int j tj, .none] } } := by
  subst e
  refine bslice hF hN .none (.int j tj) ?_ hz h hs ht
  obtain ⟨b, rfl⟩ := Int.eq_ofNat_of_zero_le h1
  simp only [Option.elim, clipAt_nat, Int.toNat_natCast, List.drop_zero, Nat.sub_zero]
  exact cut_j l b
theorem bslice_i {i : Int} {ti : Tok} {r : List UInt8} (hF : Fr h₀ L s.heap m) (hN : News h₀ L s.heap news) (h0 : 0 ≤ i) (hz : l.length ≤ 100000) (e : l.drop i.toNat = r)
    (h : ∀ h' t' k, Fr h₀ L h' m → News h₀ L h' news → Q (.bytes r.toArray t') { s with heap := h', toks := k })
    (hs : subscripted slice false (.bytes l.toArray t) (.ref s.heap.objs.size) = operate [.ref s.heap.objs.size, .bytes l.toArray t] (getItem (.bytes l.toArray t) (.ref s.heap.objs.size)) := by with_unfolding_all rfl)
    (ht : ∀ r, letTemporaryGo value (.bytes l.toArray t) r = pure () := by intro _; with_unfolding_all rfl) :
    wpAny (model prog w) A (subscriptTail value slice (.bytes l.toArray t) (.ref s.heap.objs.size)) Q E { s with heap := s.heap.push { cls := .type "slice", data := .fields #[.int i ti, .none, .none] } } := by
  subst e
  refine bslice hF hN (.int i ti) .none ?_ hz h hs ht
  obtain ⟨a, rfl⟩ := Int.eq_ofNat_of_zero_le h0
  simp only [Option.elim, clipAt_nat, Int.toNat_natCast]
  exact cut_i l a
end
end
end Mine

namespace Mine
local macro_rules | `(tactic| omega) => `(tactic| lia)
section
open PyProof.V PySem.Builtin
/-- the values are one-sign bytes -/
inductive SignsAre : List Value → List UInt8 → Prop
  | nil : SignsAre [] []
  | cons {c : UInt8} {u : Tok} {vs : List Value} {cs : List UInt8} : SignsAre vs cs → SignsAre (.bytes #[c] u :: vs) (c :: cs)
section
variable {prog : Program} {w : World} {A : Around} {E : Value → Shared → Prop} {s : Shared} {h₀ : Heap} {L : Addr} {m : PySem.Str → Option Value} {news : Led}
theorem eqBool_bytes {x y : Array UInt8} {t u : Tok} {Q : Bool → Shared → Prop} (h : Q (x.toList == y.toList) s) : wpAny (model prog w) A (eqBool (.bytes x t) (.bytes y u)) Q E s := by
  unfold eqBool
  show wpAny _ _ (if (Value.bytes x t == Value.bytes y u) = true then _ else _) Q E s
  by_cases hab : (Value.bytes x t == Value.bytes y u) = true
  · rw [if_pos hab]
    have e : x = y := by
      have := eq_of_beq hab
      injection this
    subst e
    exact wpAny_bind (wpAny_rule (wpAny_pure (by simpa using h)))
  · rw [if_neg hab]
    exact wpAny_bind (eq_bytes (wpAny_truthy_bool h))
theorem tuple_contains_signs {t : Addr} {items : Array Value} {cs : List UInt8} {x : UInt8} {u : Tok} {P : PySem.Fin → Shared → Prop} (ht : IsTup s.heap t items) (hi : SignsAre items.toList cs)
    (h : P (.done (.ret (.bool (cs.contains x)))) s) : wpAny (model prog w) A (Builtin.«tuple.__contains__» ⟨[.ref t, .bytes #[x] u], []⟩) P E s := by
  show wpAny _ _ (Builtin.Tuple.tupleItemsOf (.ref t) >>= _) _ _ s
  refine wpAny_bind (tupleItemsOf_ ht ?_)
  refine wpAny_bind (forIn_array_ _ (fun rest b s' => b.1 = none ∧ s' = s ∧ ∃ ms, SignsAre rest ms ∧ P (.done (.ret (.bool (ms.contains x)))) s) _ ?_ ?_ items _ ⟨rfl, rfl, cs, hi, h⟩)
  · rintro y rest b s' ⟨hb, rfl, ms, hm, hP⟩
    cases hm with
    | @cons n tk _ ms' hm' =>
      refine wpAny_bind (eqBool_bytes ?_)
      rw [List.contains_cons] at hP
      have hx : (#[n].toList == #[x].toList) = (x == n) := by
        show ([n] == [x]) = (x == n)
        by_cases hc : n = x
        · subst hc
          simp
        · have hc' : ¬ x = n := fun q => hc q.symm
          rw [beq_eq_false_iff_ne.mpr hc', beq_eq_false_iff_ne.mpr (fun q => hc (List.cons.inj q).1)]
      rw [hx]
      cases hnx : (x == n) with
      | true =>
        rw [hnx] at hP
        exact wpAny_bind (wpAny_pure (wpAny_pure (wpAny_pure (by simpa using hP))))
      | false =>
        rw [hnx] at hP
        exact wpAny_pure ⟨rfl, rfl, _, hm', by simpa using hP⟩
  · rintro ⟨b1, b2⟩ s' ⟨hb, rfl, ms, hm, hP⟩
    cases hm
    simp only at hb
    subst hb
    exact wpAny_pure (by simpa using hP)
theorem contains_tuple_signs {t : Addr} {items : Array Value} {cs : List UInt8} {x : UInt8} {u : Tok} {Q : Bool → Shared → Prop} (ht : IsTup s.heap t items) (hi : SignsAre items.toList cs)
    (h : Q (cs.contains x) s) : wpAny (model prog w) A (contains (.ref t) (.bytes #[x] u)) Q E s := by
  unfold contains
  refine wpAny_holding ?_
  refine wpAny_bind (wpAny_specialOf ht.typeIs slot_tuple_contains.lookup ?_)
  rw [if_neg (by decide)]
  exact wpAny_bind (wpAny_callSpecialUnlessNone?_slot (name := Str.ofString "__contains__") ht.typeIs slot_tuple_contains
    (wpAny_call_entry slot_tuple_contains ht.typeIs entry_tuple_contains (tuple_contains_signs ht hi ⟨_, rfl, wpAny_truthy_bool h⟩) (args_tuple_contains _ _)))
theorem notin_signs {t : Addr} {vs : List Value} {cs : List UInt8} {x : UInt8} {u : Tok} {n : Nat} {Q : Value → Shared → Prop} (N : News h₀ L s.heap news) (ht : (t, ({ cls := .type "tuple", data := .seq vs.toArray n } : Obj)) ∈ news) (hi : SignsAre vs cs)
    (h : Q (.bool (!(cs.contains x))) s) : wpAny (model prog w) A (compareOp .NotIn (.bytes [x].toArray u) (.ref t)) Q E s := by
  show wpAny _ _ (do return .bool (!(← contains (.ref t) (.bytes #[x] u)))) Q E s
  exact wpAny_bind (contains_tuple_signs (items := vs.toArray) ⟨_, N.get ht, rfl, _, rfl⟩ hi (wpAny_pure h))
end
end
end Mine

namespace Mine
local macro_rules | `(tactic| omega) => `(tactic| lia)
section
variable {w : World} {A₀ : Around} {E : Value → Shared → Prop} {s : Shared} {base g : Heap} {outer : List Env} {L a : Addr} {m mg mb : Str → Option Value} {mean : ExcName → Option Value} {cn : Str} {cs : Scope} {ccd : Value} {news : Led} {v : Value}
theorem raise_here (B : Below A₀ base outer g) (F : Fr g L s.heap m) (X : (hd.heap_1 w.params).In g) (N : News g L s.heap news) (T : Top vw LO mean mg mb g) (hk : cs.kind = .function) (hdp : A₀.depth ≤ 990)
    (hE : ∀ e dd tk k h', Raised dd base g outer e ((dd, toldD w tk v) :: news) h' → g.UpToSlots h' → E (.ref e) { s with heap := h', toks := k }) :
    RaiseB w (A₀.deeper (envOf cn cs L a ccd)) (fun e s' => wpAny (model PR w) (A₀.deeper (envOf cn cs L a ccd)) (leaving (envOf cn cs L a ccd) e) (fun _ s'' => E e s'') (fun e' s'' => E e' s'') s') s [v] :=
  raise_made B F X N T hk hdp fun e dd t tk k h' F1 N1 he hge hne =>
    raise_first (s := { s with heap := h', toks := k }) B F1 N1 he hge hne ⟨rfl, rfl⟩ rfl rfl (fun h2 R U => hE e dd tk k h2 R U) hk
end
theorem one_at {o : List UInt8} {p : Nat} {c : UInt8} (hc : o[p]? = some c) : (o.take ((p : Int) + 1).toNat).drop (p : Int).toNat = [c] := by
  have e1 : ((p : Int) + 1).toNat = p + 1 := by omega
  have e2 : (p : Int).toNat = p := by omega
  rw [e1, e2, List.take_add_one, hc]
  have hp := (List.getElem?_eq_some_iff.mp hc).1
  simp [List.length_take, Nat.min_eq_left (Nat.le_of_lt hp)]
theorem none_at {o : List UInt8} {p : Nat} (hc : o[p]? = none) : (o.take ((p : Int) + 1).toNat).drop (p : Int).toNat = [] := by
  have hp := List.getElem?_eq_none_iff.mp hc
  rw [List.drop_eq_nil_iff, List.length_take]
  omega
end Mine

section
local macro_rules | `(tactic| walk_at $s:str) => `(tactic| k_extra $s)

local macro_rules | `(tactic| size_fits) => `(tactic| (rw [PySem.sizeLine_eq]; exact Nat.le_of_ble_eq_true rfl))

local macro_rules | `(tactic| k_room) => `(tactic| ktr_room)

local macro_rules | `(tactic| k_mem) => `(tactic| assumption)

local macro_rules | `(tactic| k_all) => `(tactic| first | assumption | exact tbn_neAll (by assumption) | exact tbn_neAll (by tbn_find) | ((fail_if_success tbn_letter); (refine List.forall_mem_cons.mpr ⟨?kaa, ?kab⟩); (case kaa => k_ne); (case kab => k_all)))

local macro_rules | `(tactic| k_in) => `(tactic| with_reducible (first | assumption | (refine' Frag.In.keeps ?kinx (Fr.keep ?kinf); (case kinf => assumption); (case kinx => assumption))))

namespace Mine
-- NOLIA
theorem words_C20 : True := by
  k_with_none
  k_with "exec If" => (k_here; (with_reducible refine wpAny_If ?_); (refine fold_Q1 ?_; intro qk8w))
  k_with "exec Assign" => (k_here; (refine wpAny_Assign_Name ?_); (refine fold_Q1 ?_; intro qk8w))
  k_with "exec Return some" => (k_here; (refine wpAny_Return_some ?_); (refine fold_Q1 ?_; intro qk8w))
  k_with "eval Name" => (k_here; name_kind "globalImplicit"; (fail_if_success (with_reducible show wpAny _ _ (eval _ (compEnvC _ _ _ _)) _ _ _)); k_dflt (first | (name_is_builtin; refine' nameX_B ?Fw9 ?Xw9 ?Tw9 ?ew9 ?vw9 ?nw9 ?_ ?aw9 ?bw9; (case Fw9 => k_asm); (case Xw9 => k_asm); (case Tw9 => k_asm); (case aw9 => rfl); (case bw9 => rfl); (case ew9 => k_is); (case vw9 => boot_fast); (case nw9 => decide); k_whole) | (refine' nameX_K ?Fw9 ?Xw9 ?Tw9 ?ew9 ?_ ?aw9 ?bw9; (case Fw9 => k_asm); (case Xw9 => k_asm); (case Tw9 => k_asm); (case aw9 => rfl); (case bw9 => rfl); (case ew9 => k_is); k_whole)))
  k_with "eval Name" => (k_here; name_kind "local"; (fail_if_success (with_reducible show wpAny _ _ (eval _ (compEnvC _ _ _ _)) _ _ _)); k_dflt (refine' nameX_L ?Fw9 ?vw9 ?_ ?aw9 ?bw9; (case Fw9 => k_asm); (case aw9 => rfl); (case bw9 => rfl); (case vw9 => rfl); k_whole))
  k_with "eval Attribute Name" => (k_here; k_dflt (refine' own_L ?Fw9 ?Xw9 ?vw9 ?Nw9 ?iw9 ?jw9 ?k4w9 ?k5w9 ?k6w9 ?k7w9 ?k8w9 ?k9w9 ?_ ?aw9 ?bw9 ?cw9; (case Fw9 => k_asm); (case Xw9 => k_asm); (case aw9 => rfl); (case bw9 => rfl); (case cw9 => exact rfl); (case vw9 => rfl); (case Nw9 => k_asm); (case iw9 => k_mem); (case jw9 => k_mem); (case k4w9 => k_is); (case k5w9 => k_is); (case k6w9 => k_is); (case k7w9 => k_is); (case k8w9 => k_get); (case k9w9 => k_handed); k_whole))
  k_with "getAttr ref" => (k_here; k_dflt (refine' get_own ?k1w9 ?k2w9 ?k3w9 ?k4w9 ?k5w9 ?k6w9 ?k7w9 ?k8w9 ?k9w9 ?_; (case k1w9 => k_asm); (case k2w9 => k_asm); (case k3w9 => k_inst); (case k4w9 => k_is); (case k5w9 => k_is); (case k6w9 => k_is); (case k7w9 => k_is); (case k8w9 => k_get); (case k9w9 => k_handed); k_whole))
  k_with "ite" => (first | with_reducible refine ite_tt ?_ | with_reducible refine ite_ff ?_ | with_reducible refine ite_True_then ?_)
  k_with "WhlIf" => (first | (refine WhlIf.yes (by (simp only [decide_eq_true_eq]; omega)) ?_) | (refine WhlIf.no (by (simp only [decide_eq_false_iff_not]; omega)) ?_))
  k_with "subscriptTail" => (k_here; (with_reducible show wpAny _ _ (subscriptTail _ (PySem.Expr.Slice _ _ none _) (Value.bytes (List.toArray _) _) (Value.ref _)) _ _ _); (with_reducible rename Fr _ _ _ _ => F'w); (with_reducible rename News _ _ _ _ => N'w); first | (refine bslice_ij (s := ⟨_, _, _, _, _⟩) F'w N'w (by omega) (by omega) (by omega) (by first | with_reducible assumption | exact rfl) ?_; intro h'w t'w k'w F'w N'w; (try k_sweep)) | (refine bslice_j (s := ⟨_, _, _, _, _⟩) F'w N'w (by omega) (by omega) (by first | with_reducible assumption | exact rfl) ?_; intro h'w t'w k'w F'w N'w; (try k_sweep)) | (refine bslice_i (s := ⟨_, _, _, _, _⟩) F'w N'w (by omega) (by omega) (by first | with_reducible assumption | exact rfl) ?_; intro h'w t'w k'w F'w N'w; (try k_sweep)))
  k_with "exec Raise some none" => (k_here; (with_reducible show wpAny _ _ (exec (Stmt.Raise (some (PySem.Expr.Call (PySem.Expr.Name _ _) [_] [] _)) none _) _) _ _ _); k_dflt (refine' Raise_bad ?Fw9 ?Xw9 ?Tw9 ?hw9 ?_ ?ew9 ?kw9 ?xw9; (case Fw9 => k_asm); (case Xw9 => k_asm); (case Tw9 => k_asm); (case hw9 => rfl); (case ew9 => rfl); (case kw9 => rfl); (case xw9 => rfl); k_whole))
  k_with "RaiseB" => (k_dflt (refine' raise_here ?Bw9 ?Fw9 ?Xw9 ?Nw9 ?Tw9 ?kw9 ?dw9 ?_; (case Bw9 => k_asm); (case Fw9 => k_asm); (case Xw9 => k_asm); (case Nw9 => k_asm); (case Tw9 => k_asm); (case kw9 => rfl); (case dw9 => ktr_room)); intro e9w dd9w tk9w k9w h9w R9w U9w)
  k_with "leaving ref" => (k_here; (refine' raise_next ?Kw9 ?Fw9 ?Rw9 ?Uw9 ?_; (case Rw9 => assumption); (case Kw9 => assumption); (case Uw9 => assumption); (case Fw9 => assumption)); intro h9w R9w U9w)
  k_with "compareOp NotIn bytes ref" => (k_here; k_dflt (refine' notin_signs ?Nw9 ?tw9 ?iw9 ?_; (case Nw9 => k_asm); (case tw9 => k_mem); (case iw9 => first | assumption | exact .cons .nil | exact .cons (.cons .nil) | exact .cons (.cons (.cons .nil))); k_whole))
  k_with "call ref" => (k_here; (with_reducible show wpAny _ _ (call (Value.ref _) _ _) _ _ _); (fail_if_success (with_reducible show wpAny _ _ (call (Value.ref 78) _ _) _ _ _)); (fail_if_success (with_reducible show wpAny _ _ (call (Value.ref 175) _ _) _ _ _)); refine stop_of ?_)
  k_with "UnrEnd" => (k_here; (refine' unr_keep ?Fw9 ?Nw9 ?ow9 ?_; (case Fw9 => assumption); (case Nw9 => k_asm); (case ow9 => exact fun p hp => Nat.ne_of_lt ((by assumption : ∀ p ∈ _, p.1 < _) p hp)); k_whole))
  k_with "exec While BoolOp" => (k_here; k_dflt (refine whl_start 100 ?_))
  k_with "execs cons" => (k_here; (try k_gentoks); (try (refine fold_Q ?_; intro qk9w ek9w)); (with_reducible refine wpAny_execs_cons ?_); (try dsimp only))
  k_with "storeName" => (k_here; k_dflt (refine' storeX_M ?Fw9 ?Nw9 ?_ ?aw9 ?bw9; (case Fw9 => k_asm); (case Nw9 => k_asm); (case aw9 => rfl); (case bw9 => rfl); k_whole; intro m9w h'w t9w F'w N'w; (try k_sweep); (try dsimp only)))
  k_with "storeName" => (k_here; (first | with_reducible refine tok_intA ?_ | with_reducible refine tok_intS ?_ | with_reducible refine tok_bytA ?_ | with_reducible refine tok_bytS ?_); intro t9w)
  k_with "call builtin:list.append" => (k_here; (first | with_reducible refine tok_appA ?_ | with_reducible refine tok_appS ?_); intro t9w)
  trivial
section
variable {w : World} {mean : ExcName → Option Value} {mg mb : Str → Option Value}
theorem c_sign (rd rdd tup : Addr) (D : Obj) (o : List UInt8) (p : Nat) (d : Int) (hD : IsRd w D o p d) (sg : List UInt8) (vs : List Value) (hcs : SignsAre vs sg) (n1 : Nat) (rest : Led) (ho : o.length ≤ 1000)
   (hr : ∀ q ∈ rest, q.1 ≠ rdd) (htr : tup ≠ rdd) (hrd : rd ≠ rdd) :
   CTR w mean mg mb 158 [.ref rd, .ref tup] 10 ((rd, instObj 175 rdd) :: (rdd, D) :: (tup, { cls := .type "tuple", data := .seq vs.toArray n1 }) :: rest)
     (fun r n' => ∃ c u' D', o[p]? = some c ∧ c ∈ sg ∧ r = .bytes [c].toArray u' ∧ IsRd w D' o ((p : Int) + 1) d ∧ n' = (rd, instObj 175 rdd) :: (rdd, D') :: (tup, { cls := .type "tuple", data := .seq vs.toArray n1 }) :: rest)
     (fun n => n = p ∧ ∀ c, o[p]? = some c → c ∉ sg) rest := by
  revert D
  refine isRd_all ?_
  intro k1 k2 k3 t1 t2 t3
  intro dp un gd cn cs a ccd cl outer A₀ base h₀ L m s Q E B F X N T hk hdp hun hQ hE
  refine wpAny_call ?_
  k_dflt ktr_enter
  rename Fr _ _ _ _ => lF9
  refine fold_m lF9 ?_
  clear lF9
  intro m9 lF9
  cases hc : o[p]? with
  | none =>
    have hone := none_at hc
    k_steps
    exact hE _ _ _ _ _ _ _ _ _ ⟨rfl, fun c q => by rw [hc] at q; cases q⟩ (by assumption) (by assumption) (.head _) (fun q hq => .tail _ (.tail _ (.tail _ (.tail _ hq)))) (by assumption)
  | some c =>
    have hone := one_at hc
    cases hcc : sg.contains c with
    | true =>
      k_steps
      · exact absurd (by assumption : ([c] == ([] : List UInt8)) = true) Bool.false_ne_true
      refine hQ _ ?nn _ _ ?F ?N ?K
      case F => k_asm
      case N => k_asm
      case K => exact ⟨c, _, _, hc, List.contains_iff_mem.mp hcc, rfl, isRd_mk, rfl⟩
    | false =>
      k_steps
      · exact absurd (by assumption : ([c] == ([] : List UInt8)) = true) Bool.false_ne_true
      · exact hE _ _ _ _ _ _ _ _ _ ⟨rfl, fun c' q => by rw [hc] at q; cases q; exact fun z => Bool.false_ne_true (hcc.symm.trans (List.contains_iff_mem.mpr z))⟩ (by assumption) (by assumption) (.head _) (fun q hq => .tail _ (.tail _ (.tail _ (.tail _ hq)))) (by assumption)
end
end Mine

namespace Mine
local macro_rules | `(tactic| omega) => `(tactic| lia)
theorem words_C30 : True := by
  k_with_none
  k_with "exec If" => (k_here; (with_reducible refine wpAny_If ?_); (refine fold_Q1 ?_; intro qk8w))
  k_with "exec Assign" => (k_here; (refine wpAny_Assign_Name ?_); (refine fold_Q1 ?_; intro qk8w))
  k_with "exec Return some" => (k_here; (refine wpAny_Return_some ?_); (refine fold_Q1 ?_; intro qk8w))
  k_with "eval Name" => (k_here; name_kind "globalImplicit"; (fail_if_success (with_reducible show wpAny _ _ (eval _ (compEnvC _ _ _ _)) _ _ _)); k_dflt (first | (name_is_builtin; refine' nameX_B ?Fw9 ?Xw9 ?Tw9 ?ew9 ?vw9 ?nw9 ?_ ?aw9 ?bw9; (case Fw9 => k_asm); (case Xw9 => k_asm); (case Tw9 => k_asm); (case aw9 => rfl); (case bw9 => rfl); (case ew9 => k_is); (case vw9 => boot_fast); (case nw9 => decide); k_whole) | (refine' nameX_K ?Fw9 ?Xw9 ?Tw9 ?ew9 ?_ ?aw9 ?bw9; (case Fw9 => k_asm); (case Xw9 => k_asm); (case Tw9 => k_asm); (case aw9 => rfl); (case bw9 => rfl); (case ew9 => k_is); k_whole)))
  k_with "eval Name" => (k_here; name_kind "local"; (fail_if_success (with_reducible show wpAny _ _ (eval _ (compEnvC _ _ _ _)) _ _ _)); k_dflt (refine' nameX_L ?Fw9 ?vw9 ?_ ?aw9 ?bw9; (case Fw9 => k_asm); (case aw9 => rfl); (case bw9 => rfl); (case vw9 => rfl); k_whole))
  k_with "eval Attribute Name" => (k_here; k_dflt (refine' own_L ?Fw9 ?Xw9 ?vw9 ?Nw9 ?iw9 ?jw9 ?k4w9 ?k5w9 ?k6w9 ?k7w9 ?k8w9 ?k9w9 ?_ ?aw9 ?bw9 ?cw9; (case Fw9 => k_asm); (case Xw9 => k_asm); (case aw9 => rfl); (case bw9 => rfl); (case cw9 => exact rfl); (case vw9 => rfl); (case Nw9 => k_asm); (case iw9 => k_mem); (case jw9 => k_mem); (case k4w9 => k_is); (case k5w9 => k_is); (case k6w9 => k_is); (case k7w9 => k_is); (case k8w9 => k_get); (case k9w9 => k_handed); k_whole))
  k_with "getAttr ref" => (k_here; k_dflt (refine' get_own ?k1w9 ?k2w9 ?k3w9 ?k4w9 ?k5w9 ?k6w9 ?k7w9 ?k8w9 ?k9w9 ?_; (case k1w9 => k_asm); (case k2w9 => k_asm); (case k3w9 => k_inst); (case k4w9 => k_is); (case k5w9 => k_is); (case k6w9 => k_is); (case k7w9 => k_is); (case k8w9 => k_get); (case k9w9 => k_handed); k_whole))
  k_with "ite" => (first | with_reducible refine ite_tt ?_ | with_reducible refine ite_ff ?_ | with_reducible refine ite_True_then ?_)
  k_with "WhlIf" => (first | (refine WhlIf.yes (by (simp only [decide_eq_true_eq]; omega)) ?_) | (refine WhlIf.no (by (simp only [decide_eq_false_iff_not]; omega)) ?_))
  k_with "subscriptTail" => (k_here; (with_reducible show wpAny _ _ (subscriptTail _ (PySem.Expr.Slice _ _ none _) (Value.bytes (List.toArray _) _) (Value.ref _)) _ _ _); (with_reducible rename Fr _ _ _ _ => F'w); (with_reducible rename News _ _ _ _ => N'w); first | (refine bslice_ij (s := ⟨_, _, _, _, _⟩) F'w N'w (by omega) (by omega) (by omega) (by first | with_reducible assumption | exact rfl) ?_; intro h'w t'w k'w F'w N'w; (try k_sweep)) | (refine bslice_j (s := ⟨_, _, _, _, _⟩) F'w N'w (by omega) (by omega) (by first | with_reducible assumption | exact rfl) ?_; intro h'w t'w k'w F'w N'w; (try k_sweep)) | (refine bslice_i (s := ⟨_, _, _, _, _⟩) F'w N'w (by omega) (by omega) (by first | with_reducible assumption | exact rfl) ?_; intro h'w t'w k'w F'w N'w; (try k_sweep)))
  k_with "exec Raise some none" => (k_here; (with_reducible show wpAny _ _ (exec (Stmt.Raise (some (PySem.Expr.Call (PySem.Expr.Name _ _) [_] [] _)) none _) _) _ _ _); k_dflt (refine' Raise_bad ?Fw9 ?Xw9 ?Tw9 ?hw9 ?_ ?ew9 ?kw9 ?xw9; (case Fw9 => k_asm); (case Xw9 => k_asm); (case Tw9 => k_asm); (case hw9 => rfl); (case ew9 => rfl); (case kw9 => rfl); (case xw9 => rfl); k_whole))
  k_with "RaiseB" => (k_dflt (refine' raise_here ?Bw9 ?Fw9 ?Xw9 ?Nw9 ?Tw9 ?kw9 ?dw9 ?_; (case Bw9 => k_asm); (case Fw9 => k_asm); (case Xw9 => k_asm); (case Nw9 => k_asm); (case Tw9 => k_asm); (case kw9 => rfl); (case dw9 => ktr_room)); intro e9w dd9w tk9w k9w h9w R9w U9w)
  k_with "leaving ref" => (k_here; (refine' raise_next ?Kw9 ?Fw9 ?Rw9 ?Uw9 ?_; (case Rw9 => assumption); (case Kw9 => assumption); (case Uw9 => assumption); (case Fw9 => assumption)); intro h9w R9w U9w)
  k_with "compareOp NotIn bytes ref" => (k_here; k_dflt (refine' notin_signs ?Nw9 ?tw9 ?iw9 ?_; (case Nw9 => k_asm); (case tw9 => k_mem); (case iw9 => first | assumption | exact .cons .nil | exact .cons (.cons .nil) | exact .cons (.cons (.cons .nil))); k_whole))
  k_with "call ref" => (k_here; (with_reducible show wpAny _ _ (call (Value.ref _) _ _) _ _ _); (fail_if_success (with_reducible show wpAny _ _ (call (Value.ref 78) _ _) _ _ _)); (fail_if_success (with_reducible show wpAny _ _ (call (Value.ref 175) _ _) _ _ _)); refine stop_of ?_)
  k_with "UnrEnd" => (k_here; (refine' unr_keep ?Fw9 ?Nw9 ?ow9 ?_; (case Fw9 => assumption); (case Nw9 => k_asm); (case ow9 => exact fun p hp => Nat.ne_of_lt ((by assumption : ∀ p ∈ _, p.1 < _) p hp)); k_whole))
  k_with "exec While BoolOp" => (k_here; k_dflt (refine whl_start 100 ?_))
  k_with "execs cons" => (k_here; (try k_gentoks); (try (refine fold_Q ?_; intro qk9w ek9w)); (with_reducible refine wpAny_execs_cons ?_); (try dsimp only))
  k_with "storeName" => (k_here; k_dflt (refine' storeX_M ?Fw9 ?Nw9 ?_ ?aw9 ?bw9; (case Fw9 => k_asm); (case Nw9 => k_asm); (case aw9 => rfl); (case bw9 => rfl); k_whole; intro m9w h'w t9w F'w N'w; (try k_sweep); (try dsimp only)))
  k_with "storeName" => (k_here; (first | with_reducible refine tok_intA ?_ | with_reducible refine tok_intS ?_ | with_reducible refine tok_bytA ?_ | with_reducible refine tok_bytS ?_); intro t9w)
  k_with "call builtin:list.append" => (k_here; (first | with_reducible refine tok_appA ?_ | with_reducible refine tok_appS ?_); intro t9w)
  trivial
def dec (n : Int) : List UInt8 := if n < 10 then [(48 + n).toNat.toUInt8] else [(48 + n / 10).toNat.toUInt8, (48 + n % 10).toNat.toUInt8]
section
variable {w : World} {mean : ExcName → Option Value} {mg mb : Str → Option Value}
theorem c_dec (n : Int) (t : Tok) (h0 : 0 ≤ n) (h1 : n < 100) (rest : Led) : CT w mean mg mb 54 [.int n t] 5 rest (fun r n' => ∃ u, r = .bytes (dec n).toArray u ∧ n' = rest) := by
  intro dp un gd cn cs a ccd cl outer A₀ base h₀ L m s Q E B F X N T hk hdp hun hQ
  refine wpAny_call ?_
  k_dflt ktr_enter
  rename Fr _ _ _ _ => lF9
  refine fold_m lF9 ?_
  clear lF9
  intro m9 lF9
  have h5 : n.fmod 10 = n % 10 := by rw [Int.fmod_eq_emod_of_nonneg _ (by decide)]
  by_cases h2 : n < 10
  · have h3 : n.fdiv 10 = 0 := by rw [Int.fdiv_eq_ediv_of_nonneg _ (by decide)]; omega
    k_steps
    refine hQ _ rest _ _ ?F ?N ?K
    case F => k_asm
    case N => exact News.subs (by k_asm) (by kqd_sub)
    case K => exact ⟨_, by rw [dec, if_pos h2, h5, Int.emod_eq_of_lt h0 h2], rfl⟩
  · have h3 : n.fdiv 10 = n / 10 := by rw [Int.fdiv_eq_ediv_of_nonneg _ (by decide)]
    have h4 : (n.fdiv 10).fdiv 10 = 0 := by rw [Int.fdiv_eq_ediv_of_nonneg _ (by decide)]; omega
    have h6 : (n.fdiv 10).fmod 10 = n / 10 := by rw [Int.fmod_eq_emod_of_nonneg _ (by decide)]; omega
    k_steps
    refine hQ _ rest _ _ ?F ?N ?K
    case F => k_asm
    case N => exact News.subs (by k_asm) (by kqd_sub)
    case K => exact ⟨_, by rw [dec, if_neg h2, h5, h6], by rfl⟩
end
end Mine

namespace Mine
-- NOLIA
theorem words_C40 : True := by
  k_with_none
  k_with "exec If" => (k_here; (with_reducible refine wpAny_If ?_); (refine fold_Q1 ?_; intro qk8w))
  k_with "exec Assign" => (k_here; (refine wpAny_Assign_Name ?_); (refine fold_Q1 ?_; intro qk8w))
  k_with "exec Return some" => (k_here; (refine wpAny_Return_some ?_); (refine fold_Q1 ?_; intro qk8w))
  k_with "eval Name" => (k_here; name_kind "globalImplicit"; (fail_if_success (with_reducible show wpAny _ _ (eval _ (compEnvC _ _ _ _)) _ _ _)); k_dflt (first | (name_is_builtin; refine' nameX_B ?Fw9 ?Xw9 ?Tw9 ?ew9 ?vw9 ?nw9 ?_ ?aw9 ?bw9; (case Fw9 => k_asm); (case Xw9 => k_asm); (case Tw9 => k_asm); (case aw9 => rfl); (case bw9 => rfl); (case ew9 => k_is); (case vw9 => boot_fast); (case nw9 => decide); k_whole) | (refine' nameX_K ?Fw9 ?Xw9 ?Tw9 ?ew9 ?_ ?aw9 ?bw9; (case Fw9 => k_asm); (case Xw9 => k_asm); (case Tw9 => k_asm); (case aw9 => rfl); (case bw9 => rfl); (case ew9 => k_is); k_whole)))
  k_with "eval Name" => (k_here; name_kind "local"; (fail_if_success (with_reducible show wpAny _ _ (eval _ (compEnvC _ _ _ _)) _ _ _)); k_dflt (refine' nameX_L ?Fw9 ?vw9 ?_ ?aw9 ?bw9; (case Fw9 => k_asm); (case aw9 => rfl); (case bw9 => rfl); (case vw9 => rfl); k_whole))
  k_with "eval Attribute Name" => (k_here; k_dflt (refine' own_L ?Fw9 ?Xw9 ?vw9 ?Nw9 ?iw9 ?jw9 ?k4w9 ?k5w9 ?k6w9 ?k7w9 ?k8w9 ?k9w9 ?_ ?aw9 ?bw9 ?cw9; (case Fw9 => k_asm); (case Xw9 => k_asm); (case aw9 => rfl); (case bw9 => rfl); (case cw9 => exact rfl); (case vw9 => rfl); (case Nw9 => k_asm); (case iw9 => k_mem); (case jw9 => k_mem); (case k4w9 => k_is); (case k5w9 => k_is); (case k6w9 => k_is); (case k7w9 => k_is); (case k8w9 => k_get); (case k9w9 => k_handed); k_whole))
  k_with "getAttr ref" => (k_here; k_dflt (refine' get_own ?k1w9 ?k2w9 ?k3w9 ?k4w9 ?k5w9 ?k6w9 ?k7w9 ?k8w9 ?k9w9 ?_; (case k1w9 => k_asm); (case k2w9 => k_asm); (case k3w9 => k_inst); (case k4w9 => k_is); (case k5w9 => k_is); (case k6w9 => k_is); (case k7w9 => k_is); (case k8w9 => k_get); (case k9w9 => k_handed); k_whole))
  k_with "ite" => (first | with_reducible refine ite_tt ?_ | with_reducible refine ite_ff ?_ | with_reducible refine ite_True_then ?_)
  k_with "WhlIf" => (first | (refine WhlIf.yes (by (simp only [decide_eq_true_eq]; omega)) ?_) | (refine WhlIf.no (by (simp only [decide_eq_false_iff_not]; omega)) ?_))
  k_with "subscriptTail" => (k_here; (with_reducible show wpAny _ _ (subscriptTail _ (PySem.Expr.Slice _ _ none _) (Value.bytes (List.toArray _) _) (Value.ref _)) _ _ _); (with_reducible rename Fr _ _ _ _ => F'w); (with_reducible rename News _ _ _ _ => N'w); first | (refine bslice_ij (s := ⟨_, _, _, _, _⟩) F'w N'w (by omega) (by omega) (by omega) (by first | with_reducible assumption | exact rfl) ?_; intro h'w t'w k'w F'w N'w; (try k_sweep)) | (refine bslice_j (s := ⟨_, _, _, _, _⟩) F'w N'w (by omega) (by omega) (by first | with_reducible assumption | exact rfl) ?_; intro h'w t'w k'w F'w N'w; (try k_sweep)) | (refine bslice_i (s := ⟨_, _, _, _, _⟩) F'w N'w (by omega) (by omega) (by first | with_reducible assumption | exact rfl) ?_; intro h'w t'w k'w F'w N'w; (try k_sweep)))
  k_with "exec Raise some none" => (k_here; (with_reducible show wpAny _ _ (exec (Stmt.Raise (some (PySem.Expr.Call (PySem.Expr.Name _ _) [_] [] _)) none _) _) _ _ _); k_dflt (refine' Raise_bad ?Fw9 ?Xw9 ?Tw9 ?hw9 ?_ ?ew9 ?kw9 ?xw9; (case Fw9 => k_asm); (case Xw9 => k_asm); (case Tw9 => k_asm); (case hw9 => rfl); (case ew9 => rfl); (case kw9 => rfl); (case xw9 => rfl); k_whole))
  k_with "RaiseB" => (k_dflt (refine' raise_here ?Bw9 ?Fw9 ?Xw9 ?Nw9 ?Tw9 ?kw9 ?dw9 ?_; (case Bw9 => k_asm); (case Fw9 => k_asm); (case Xw9 => k_asm); (case Nw9 => k_asm); (case Tw9 => k_asm); (case kw9 => rfl); (case dw9 => ktr_room)); intro e9w dd9w tk9w k9w h9w R9w U9w)
  k_with "leaving ref" => (k_here; (refine' raise_next ?Kw9 ?Fw9 ?Rw9 ?Uw9 ?_; (case Rw9 => assumption); (case Kw9 => assumption); (case Uw9 => assumption); (case Fw9 => assumption)); intro h9w R9w U9w)
  k_with "compareOp NotIn bytes ref" => (k_here; k_dflt (refine' notin_signs ?Nw9 ?tw9 ?iw9 ?_; (case Nw9 => k_asm); (case tw9 => k_mem); (case iw9 => first | assumption | exact .cons .nil | exact .cons (.cons .nil) | exact .cons (.cons (.cons .nil))); k_whole))
  k_with "call ref" => (k_here; (with_reducible show wpAny _ _ (call (Value.ref _) _ _) _ _ _); (fail_if_success (with_reducible show wpAny _ _ (call (Value.ref 78) _ _) _ _ _)); (fail_if_success (with_reducible show wpAny _ _ (call (Value.ref 175) _ _) _ _ _)); refine stop_of ?_)
  k_with "UnrEnd" => (k_here; (refine' unr_keep ?Fw9 ?Nw9 ?ow9 ?_; (case Fw9 => assumption); (case Nw9 => k_asm); (case ow9 => exact fun p hp => Nat.ne_of_lt ((by assumption : ∀ p ∈ _, p.1 < _) p hp)); k_whole))
  k_with "exec While BoolOp" => (k_here; k_dflt (refine whl_start 100 ?_))
  k_with "execs cons" => (k_here; (try k_gentoks); (try (refine fold_Q ?_; intro qk9w ek9w)); (with_reducible refine wpAny_execs_cons ?_); (try dsimp only))
  k_with "storeName" => (k_here; k_dflt (refine' storeX_M ?Fw9 ?Nw9 ?_ ?aw9 ?bw9; (case Fw9 => k_asm); (case Nw9 => k_asm); (case aw9 => rfl); (case bw9 => rfl); k_whole; intro m9w h'w t9w F'w N'w; (try k_sweep); (try dsimp only)))
  k_with "storeName" => (k_here; (first | with_reducible refine tok_intA ?_ | with_reducible refine tok_intS ?_ | with_reducible refine tok_bytA ?_ | with_reducible refine tok_bytS ?_); intro t9w)
  k_with "call builtin:list.append" => (k_here; (first | with_reducible refine tok_appA ?_ | with_reducible refine tok_appS ?_); intro t9w)
  trivial
section
variable {w : World} {mean : ExcName → Option Value} {mg mb : Str → Option Value}
theorem c_numof0 (t : Tok) (rest : Led) : CT w mean mg mb 61 [.bytes ([] : List UInt8).toArray t] 5 rest (fun r n' => r = .none ∧ n' = rest) := by
  intro dp un gd cn cs a ccd cl outer A₀ base h₀ L m s Q E B F X N T hk hdp hun hQ
  refine wpAny_call ?_
  k_dflt ktr_enter
  rename Fr _ _ _ _ => lF9
  refine fold_m lF9 ?_
  clear lF9
  intro m9 lF9
  k_steps
  exact hQ _ _ _ _ (by assumption) (by assumption) ⟨rfl, rfl⟩
theorem c_numof1 (a : UInt8) (t : Tok) (h0 : 48 ≤ a.toNat) (h1 : a.toNat ≤ 57) (rest : Led) : CT w mean mg mb 61 [.bytes [a].toArray t] 5 rest (fun r n' => ∃ u, r = .int (a.toNat - 48 : Int) u ∧ n' = rest) := by
  intro dp un gd cn cs a0 ccd cl outer A₀ base h₀ L m s Q E B F X N T hk hdp hun hQ
  refine wpAny_call ?_
  k_dflt ktr_enter
  rename Fr _ _ _ _ => lF9
  refine fold_m lF9 ?_
  clear lF9
  intro m9 lF9
  have hz : ((#[a].size : Nat) : Int) = 1 := rfl
  k_steps
  · omega
  rename Fr _ _ _ _ => lF'
  rename News _ _ _ _ => lN'
  with_unfolding_all refine iter_bytesUnr (l := [(a.toNat:Int)]) (by rfl) lF' lN' (by rfl) ?_
  clear lF' lN'
  intro i' l1
  k_steps
  refine hQ _ rest _ _ ?F ?N ?K
  case F => k_asm
  case N => k_asm
  case K => exact ⟨_, by congr 1; omega, rfl⟩
theorem c_numof2 (a b : UInt8) (t : Tok) (h0 : 48 ≤ a.toNat) (h1 : a.toNat ≤ 57) (h2 : 48 ≤ b.toNat) (h3 : b.toNat ≤ 57) (rest : Led) : CT w mean mg mb 61 [.bytes [a, b].toArray t] 5 rest (fun r n' => ∃ u, r = .int (10 * (a.toNat - 48 : Int) + (b.toNat - 48 : Int)) u ∧ n' = rest) := by
  intro dp un gd cn cs a0 ccd cl outer A₀ base h₀ L m s Q E B F X N T hk hdp hun hQ
  refine wpAny_call ?_
  k_dflt ktr_enter
  rename Fr _ _ _ _ => lF9
  refine fold_m lF9 ?_
  clear lF9
  intro m9 lF9
  have hz : ((#[a, b].size : Nat) : Int) = 2 := rfl
  k_steps
  · omega
  rename Fr _ _ _ _ => lF'
  rename News _ _ _ _ => lN'
  with_unfolding_all refine iter_bytesUnr (l := [(a.toNat:Int), (b.toNat:Int)]) (by rfl) lF' lN' (by rfl) ?_
  clear lF' lN'
  intro i' l1
  k_steps
  refine hQ _ rest _ _ ?F ?N ?K
  case F => k_asm
  case N => k_asm
  case K => exact ⟨_, by congr 1; omega, rfl⟩
end
end Mine

namespace Mine
local macro_rules | `(tactic| omega) => `(tactic| lia)
theorem words_C50 : True := by
  k_with_none
  k_with "exec If" => (k_here; (with_reducible refine wpAny_If ?_); (refine fold_Q1 ?_; intro qk8w))
  k_with "exec Assign" => (k_here; (refine wpAny_Assign_Name ?_); (refine fold_Q1 ?_; intro qk8w))
  k_with "exec Return some" => (k_here; (refine wpAny_Return_some ?_); (refine fold_Q1 ?_; intro qk8w))
  k_with "eval Name" => (k_here; name_kind "globalImplicit"; (fail_if_success (with_reducible show wpAny _ _ (eval _ (compEnvC _ _ _ _)) _ _ _)); k_dflt (first | (name_is_builtin; refine' nameX_B ?Fw9 ?Xw9 ?Tw9 ?ew9 ?vw9 ?nw9 ?_ ?aw9 ?bw9; (case Fw9 => k_asm); (case Xw9 => k_asm); (case Tw9 => k_asm); (case aw9 => rfl); (case bw9 => rfl); (case ew9 => k_is); (case vw9 => boot_fast); (case nw9 => decide); k_whole) | (refine' nameX_K ?Fw9 ?Xw9 ?Tw9 ?ew9 ?_ ?aw9 ?bw9; (case Fw9 => k_asm); (case Xw9 => k_asm); (case Tw9 => k_asm); (case aw9 => rfl); (case bw9 => rfl); (case ew9 => k_is); k_whole)))
  k_with "eval Name" => (k_here; name_kind "local"; (fail_if_success (with_reducible show wpAny _ _ (eval _ (compEnvC _ _ _ _)) _ _ _)); k_dflt (refine' nameX_L ?Fw9 ?vw9 ?_ ?aw9 ?bw9; (case Fw9 => k_asm); (case aw9 => rfl); (case bw9 => rfl); (case vw9 => rfl); k_whole))
  k_with "eval Attribute Name" => (k_here; k_dflt (refine' own_L ?Fw9 ?Xw9 ?vw9 ?Nw9 ?iw9 ?jw9 ?k4w9 ?k5w9 ?k6w9 ?k7w9 ?k8w9 ?k9w9 ?_ ?aw9 ?bw9 ?cw9; (case Fw9 => k_asm); (case Xw9 => k_asm); (case aw9 => rfl); (case bw9 => rfl); (case cw9 => exact rfl); (case vw9 => rfl); (case Nw9 => k_asm); (case iw9 => k_mem); (case jw9 => k_mem); (case k4w9 => k_is); (case k5w9 => k_is); (case k6w9 => k_is); (case k7w9 => k_is); (case k8w9 => k_get); (case k9w9 => k_handed); k_whole))
  k_with "getAttr ref" => (k_here; k_dflt (refine' get_own ?k1w9 ?k2w9 ?k3w9 ?k4w9 ?k5w9 ?k6w9 ?k7w9 ?k8w9 ?k9w9 ?_; (case k1w9 => k_asm); (case k2w9 => k_asm); (case k3w9 => k_inst); (case k4w9 => k_is); (case k5w9 => k_is); (case k6w9 => k_is); (case k7w9 => k_is); (case k8w9 => k_get); (case k9w9 => k_handed); k_whole))
  k_with "ite" => (first | with_reducible refine ite_tt ?_ | with_reducible refine ite_ff ?_ | with_reducible refine ite_True_then ?_)
  k_with "WhlIf" => (first | (refine WhlIf.yes (by (simp only [decide_eq_true_eq]; omega)) ?_) | (refine WhlIf.no (by (simp only [decide_eq_false_iff_not]; omega)) ?_))
  k_with "subscriptTail" => (k_here; (with_reducible show wpAny _ _ (subscriptTail _ (PySem.Expr.Slice _ _ none _) (Value.bytes (List.toArray _) _) (Value.ref _)) _ _ _); (with_reducible rename Fr _ _ _ _ => F'w); (with_reducible rename News _ _ _ _ => N'w); first | (refine bslice_ij (s := ⟨_, _, _, _, _⟩) F'w N'w (by omega) (by omega) (by omega) (by first | with_reducible assumption | exact rfl) ?_; intro h'w t'w k'w F'w N'w; (try k_sweep)) | (refine bslice_j (s := ⟨_, _, _, _, _⟩) F'w N'w (by omega) (by omega) (by first | with_reducible assumption | exact rfl) ?_; intro h'w t'w k'w F'w N'w; (try k_sweep)) | (refine bslice_i (s := ⟨_, _, _, _, _⟩) F'w N'w (by omega) (by omega) (by first | with_reducible assumption | exact rfl) ?_; intro h'w t'w k'w F'w N'w; (try k_sweep)))
  k_with "exec Raise some none" => (k_here; (with_reducible show wpAny _ _ (exec (Stmt.Raise (some (PySem.Expr.Call (PySem.Expr.Name _ _) [_] [] _)) none _) _) _ _ _); k_dflt (refine' Raise_bad ?Fw9 ?Xw9 ?Tw9 ?hw9 ?_ ?ew9 ?kw9 ?xw9; (case Fw9 => k_asm); (case Xw9 => k_asm); (case Tw9 => k_asm); (case hw9 => rfl); (case ew9 => rfl); (case kw9 => rfl); (case xw9 => rfl); k_whole))
  k_with "RaiseB" => (k_dflt (refine' raise_here ?Bw9 ?Fw9 ?Xw9 ?Nw9 ?Tw9 ?kw9 ?dw9 ?_; (case Bw9 => k_asm); (case Fw9 => k_asm); (case Xw9 => k_asm); (case Nw9 => k_asm); (case Tw9 => k_asm); (case kw9 => rfl); (case dw9 => ktr_room)); intro e9w dd9w tk9w k9w h9w R9w U9w)
  k_with "leaving ref" => (k_here; (refine' raise_next ?Kw9 ?Fw9 ?Rw9 ?Uw9 ?_; (case Rw9 => assumption); (case Kw9 => assumption); (case Uw9 => assumption); (case Fw9 => assumption)); intro h9w R9w U9w)
  k_with "compareOp NotIn bytes ref" => (k_here; k_dflt (refine' notin_signs ?Nw9 ?tw9 ?iw9 ?_; (case Nw9 => k_asm); (case tw9 => k_mem); (case iw9 => first | assumption | exact .cons .nil | exact .cons (.cons .nil) | exact .cons (.cons (.cons .nil))); k_whole))
  k_with "call ref" => (k_here; (with_reducible show wpAny _ _ (call (Value.ref _) _ _) _ _ _); (fail_if_success (with_reducible show wpAny _ _ (call (Value.ref 78) _ _) _ _ _)); (fail_if_success (with_reducible show wpAny _ _ (call (Value.ref 175) _ _) _ _ _)); refine stop_of ?_)
  k_with "UnrEnd" => (k_here; (refine' unr_keep ?Fw9 ?Nw9 ?ow9 ?_; (case Fw9 => assumption); (case Nw9 => k_asm); (case ow9 => exact fun p hp => Nat.ne_of_lt ((by assumption : ∀ p ∈ _, p.1 < _) p hp)); k_whole))
  k_with "exec While BoolOp" => (k_here; k_dflt (refine whl_start 100 ?_))
  k_with "execs cons" => (k_here; (try k_gentoks); (try (refine fold_Q ?_; intro qk9w ek9w)); (with_reducible refine wpAny_execs_cons ?_); (try dsimp only))
  k_with "storeName" => (k_here; k_dflt (refine' storeX_M ?Fw9 ?Nw9 ?_ ?aw9 ?bw9; (case Fw9 => k_asm); (case Nw9 => k_asm); (case aw9 => rfl); (case bw9 => rfl); k_whole; intro m9w h'w t9w F'w N'w; (try k_sweep); (try dsimp only)))
  k_with "storeName" => (k_here; (first | with_reducible refine tok_intA ?_ | with_reducible refine tok_intS ?_ | with_reducible refine tok_bytA ?_ | with_reducible refine tok_bytS ?_); intro t9w)
  k_with "call builtin:list.append" => (k_here; (first | with_reducible refine tok_appA ?_ | with_reducible refine tok_appS ?_); intro t9w)
  k_with "WhlRest" => (k_here; refine stop_of ?_)
  k_with "execs cons" => (with_reducible refine wpAny_execs_cons ?_)
  k_with "execs nil" => (with_reducible refine wpAny_execs_nil ?_)
  trivial
theorem figs_get {o : List UInt8} {p : Nat} {a : UInt8} (ha : o[p]? = some a) : ((o.getD (p : Int).toNat 0).toNat : Int) = a.toNat ∧ (p : Int) < (o.length : Int) := by
  have e : (p : Int).toNat = p := by omega
  have hp := (List.getElem?_eq_some_iff.mp ha).1
  rw [e, List.getD_eq_getElem?_getD, ha]
  exact ⟨rfl, by omega⟩
theorem u8n (n : Nat) (a : UInt8) (h : n = a.toNat) : n.toUInt8 = a := by
  subst h
  exact UInt8.ofNat_toNat
theorem dec1 {a : UInt8} (h1 : 48 ≤ a.toNat) (h2 : a.toNat ≤ 57) : dec ((a.toNat : Int) - 48) = [a] := by
  unfold dec
  rw [if_pos (by omega)]
  congr 1
  exact u8n _ _ (by omega)
theorem dec2 {a b : UInt8} (h1 : 48 < a.toNat) (h2 : a.toNat ≤ 57) (h3 : 48 ≤ b.toNat) (h4 : b.toNat ≤ 57) : dec (10 * ((a.toNat : Int) - 48) + ((b.toNat : Int) - 48)) = [a, b] := by
  unfold dec
  rw [if_neg (by omega)]
  congr 1
  · exact u8n _ _ (by omega)
  · congr 1
    exact u8n _ _ (by omega)
section
variable {w : World} {mean : ExcName → Option Value} {mg mb : Str → Option Value}
theorem c_number1 (rd rdd : Addr) (D : Obj) (o : List UInt8) (p : Nat) (d : Int) (hD : IsRd w D o p d) (rest : Led) (ho : o.length ≤ 1000)
   (hr : ∀ q ∈ rest, q.1 ≠ rdd) (hrd : rd ≠ rdd) (a : UInt8) (ha : o[p]? = some a) (h1 : 48 ≤ a.toNat) (h2 : a.toNat ≤ 57) (hb : ∀ b, o[p+1]? = some b → ¬ (48 ≤ b.toNat ∧ b.toNat ≤ 57)) :
   CT w mean mg mb 165 [.ref rd] 10 ((rd, instObj 175 rdd) :: (rdd, D) :: rest)
     (fun r n' => ∃ u' D', r = .int (a.toNat - 48 : Int) u' ∧ IsRd w D' o (p+1 : Nat) d ∧ n' = (rd, instObj 175 rdd) :: (rdd, D') :: rest) := by
  revert D
  refine isRd_all ?_
  intro k1 k2 k3 t1 t2 t3
  intro dp un gd cn cs a0 ccd cl outer A₀ base h₀ L m s Q E B F X N T hk hdp hun hQ
  refine wpAny_call ?_
  k_dflt ktr_enter
  rename Fr _ _ _ _ => lF9
  refine fold_m lF9 ?_
  clear lF9
  intro m9 lF9
  have hone := one_at ha
  obtain ⟨hg, hl⟩ := figs_get ha
  have hn0 : (0 : Int) ≤ a.toNat - 48 := by omega
  have hn1 : (a.toNat : Int) - 48 < 100 := by omega
  have hdec := dec1 h1 h2
  have hsame : (([a].toArray.toList) != ([a].toArray.toList)) = false := by simp
  k_steps
  unfold Stop
  k_dflt (refine' whl_turn ?hE ?_; (case hE => first | passes_own | with_unfolding_all passes_own))
  (try k_sweep)
  k_steps
  unfold Stop
  k_dflt (refine' whl_turn ?hE ?_; (case hE => first | passes_own | with_unfolding_all passes_own))
  (try k_sweep)
  refine join_test (by k_asm) (by k_asm) ?ht ?_
  case ht =>
    cases hq : o[p+1]? with
    | none =>
      have hl2 : ¬ ((p : Int) + 1 < (o.length : Int)) := by
        have := List.getElem?_eq_none_iff.mp hq
        omega
      k_steps
      exact JQ.mk (by assumption) (by assumption)
    | some b =>
      obtain ⟨hg2, hl2⟩ := figs_get hq
      have e2 : (((p + 1 : Nat) : Int)) = (p : Int) + 1 := by omega
      rw [e2] at hg2 hl2
      have hnb := hb _ hq
      by_cases h3 : 48 ≤ b.toNat
      · have h4 : ¬ b.toNat ≤ 57 := fun z => hnb ⟨h3, z⟩
        k_steps
        exact JQ.mk (by assumption) (by assumption)
      · skip
        k_steps
        exact JQ.mk (by assumption) (by assumption)
  intro h' tk' F' N'
  k_sweep
  refine WhlIf.no rfl ?_
  k_steps
  unfold Stop
  (try (refine fold_Q ?_; intro qk9 ek9)); k_dflt (refine CT.use (c_numof1 a _ h1 h2 _) (by k_asm) (by k_asm) (by k_asm) (by k_asm) (by k_asm) (by first | assumption | exact rfl) (by first | exact room_of hdp (by first | exact Nat.le_of_ble_eq_true rfl | exact Nat.le_add_right_of_le (Nat.le_of_ble_eq_true rfl) | omega) | (simp only [depth_under_make, depth_under_kw, depth_in1, depth_deeper, depth_caller, ktrTop]; omega) | ktr_room) (by first | exact units_of hun (by first | exact Nat.le_of_ble_eq_true rfl | exact Nat.le_add_right_of_le (Nat.le_of_ble_eq_true rfl) | omega) | (simp only [units_in1, units_deeper, Around.mark_units, units_caller, ktrTop]; omega) | ((try simp only [units_in1, units_deeper, Around.mark_units, units_caller] at *); (try dsimp only [ktrTop] at *); omega)) ?_)
  refine use3 ?_
  intro h' tk' F' P9 rQ9 nQ9 kQ9
  obtain ⟨u, er9, en9⟩ := kQ9
  refine eq_rn er9 en9 ?_
  clear er9 en9
  (try clear nQ9)
  (try clear rQ9)
  intro N'
  (try clear P9)
  k_sweep
  k_steps
  unfold Stop
  (try (refine fold_Q ?_; intro qk9 ek9)); k_dflt (refine CT.use (c_dec _ _ hn0 hn1 _) (by k_asm) (by k_asm) (by k_asm) (by k_asm) (by k_asm) (by first | assumption | exact rfl) (by first | exact room_of hdp (by first | exact Nat.le_of_ble_eq_true rfl | exact Nat.le_add_right_of_le (Nat.le_of_ble_eq_true rfl) | omega) | (simp only [depth_under_make, depth_under_kw, depth_in1, depth_deeper, depth_caller, ktrTop]; omega) | ktr_room) (by first | exact units_of hun (by first | exact Nat.le_of_ble_eq_true rfl | exact Nat.le_add_right_of_le (Nat.le_of_ble_eq_true rfl) | omega) | (simp only [units_in1, units_deeper, Around.mark_units, units_caller, ktrTop]; omega) | ((try simp only [units_in1, units_deeper, Around.mark_units, units_caller] at *); (try dsimp only [ktrTop] at *); omega)) ?_)
  refine use3 ?_
  intro h' tk' F' P9 rQ9 nQ9 kQ9
  obtain ⟨u2, er9, en9⟩ := kQ9
  refine eq_rn er9 en9 ?_
  clear er9 en9
  (try clear nQ9)
  (try clear rQ9)
  intro N'
  (try clear P9)
  rw [hdec]
  k_sweep
  k_steps
  exact hQ _ _ _ _ (by assumption) (by assumption) ⟨_, _, rfl, isRd_mk, rfl⟩
end
end Mine

namespace Mine
local macro_rules | `(tactic| omega) => `(tactic| lia)
theorem words_C60 : True := by
  k_with_none
  k_with "exec If" => (k_here; (with_reducible refine wpAny_If ?_); (refine fold_Q1 ?_; intro qk8w))
  k_with "exec Assign" => (k_here; (refine wpAny_Assign_Name ?_); (refine fold_Q1 ?_; intro qk8w))
  k_with "exec Return some" => (k_here; (refine wpAny_Return_some ?_); (refine fold_Q1 ?_; intro qk8w))
  k_with "eval Name" => (k_here; name_kind "globalImplicit"; (fail_if_success (with_reducible show wpAny _ _ (eval _ (compEnvC _ _ _ _)) _ _ _)); k_dflt (first | (name_is_builtin; refine' nameX_B ?Fw9 ?Xw9 ?Tw9 ?ew9 ?vw9 ?nw9 ?_ ?aw9 ?bw9; (case Fw9 => k_asm); (case Xw9 => k_asm); (case Tw9 => k_asm); (case aw9 => rfl); (case bw9 => rfl); (case ew9 => k_is); (case vw9 => boot_fast); (case nw9 => decide); k_whole) | (refine' nameX_K ?Fw9 ?Xw9 ?Tw9 ?ew9 ?_ ?aw9 ?bw9; (case Fw9 => k_asm); (case Xw9 => k_asm); (case Tw9 => k_asm); (case aw9 => rfl); (case bw9 => rfl); (case ew9 => k_is); k_whole)))
  k_with "eval Name" => (k_here; name_kind "local"; (fail_if_success (with_reducible show wpAny _ _ (eval _ (compEnvC _ _ _ _)) _ _ _)); k_dflt (refine' nameX_L ?Fw9 ?vw9 ?_ ?aw9 ?bw9; (case Fw9 => k_asm); (case aw9 => rfl); (case bw9 => rfl); (case vw9 => rfl); k_whole))
  k_with "eval Attribute Name" => (k_here; k_dflt (refine' own_L ?Fw9 ?Xw9 ?vw9 ?Nw9 ?iw9 ?jw9 ?k4w9 ?k5w9 ?k6w9 ?k7w9 ?k8w9 ?k9w9 ?_ ?aw9 ?bw9 ?cw9; (case Fw9 => k_asm); (case Xw9 => k_asm); (case aw9 => rfl); (case bw9 => rfl); (case cw9 => exact rfl); (case vw9 => rfl); (case Nw9 => k_asm); (case iw9 => k_mem); (case jw9 => k_mem); (case k4w9 => k_is); (case k5w9 => k_is); (case k6w9 => k_is); (case k7w9 => k_is); (case k8w9 => k_get); (case k9w9 => k_handed); k_whole))
  k_with "getAttr ref" => (k_here; k_dflt (refine' get_own ?k1w9 ?k2w9 ?k3w9 ?k4w9 ?k5w9 ?k6w9 ?k7w9 ?k8w9 ?k9w9 ?_; (case k1w9 => k_asm); (case k2w9 => k_asm); (case k3w9 => k_inst); (case k4w9 => k_is); (case k5w9 => k_is); (case k6w9 => k_is); (case k7w9 => k_is); (case k8w9 => k_get); (case k9w9 => k_handed); k_whole))
  k_with "ite" => (first | with_reducible refine ite_tt ?_ | with_reducible refine ite_ff ?_ | with_reducible refine ite_True_then ?_)
  k_with "WhlIf" => (first | (refine WhlIf.yes (by (simp only [decide_eq_true_eq]; omega)) ?_) | (refine WhlIf.no (by (simp only [decide_eq_false_iff_not]; omega)) ?_))
  k_with "subscriptTail" => (k_here; (with_reducible show wpAny _ _ (subscriptTail _ (PySem.Expr.Slice _ _ none _) (Value.bytes (List.toArray _) _) (Value.ref _)) _ _ _); (with_reducible rename Fr _ _ _ _ => F'w); (with_reducible rename News _ _ _ _ => N'w); first | (refine bslice_ij (s := ⟨_, _, _, _, _⟩) F'w N'w (by omega) (by omega) (by omega) (by first | with_reducible assumption | exact rfl) ?_; intro h'w t'w k'w F'w N'w; (try k_sweep)) | (refine bslice_j (s := ⟨_, _, _, _, _⟩) F'w N'w (by omega) (by omega) (by first | with_reducible assumption | exact rfl) ?_; intro h'w t'w k'w F'w N'w; (try k_sweep)) | (refine bslice_i (s := ⟨_, _, _, _, _⟩) F'w N'w (by omega) (by omega) (by first | with_reducible assumption | exact rfl) ?_; intro h'w t'w k'w F'w N'w; (try k_sweep)))
  k_with "exec Raise some none" => (k_here; (with_reducible show wpAny _ _ (exec (Stmt.Raise (some (PySem.Expr.Call (PySem.Expr.Name _ _) [_] [] _)) none _) _) _ _ _); k_dflt (refine' Raise_bad ?Fw9 ?Xw9 ?Tw9 ?hw9 ?_ ?ew9 ?kw9 ?xw9; (case Fw9 => k_asm); (case Xw9 => k_asm); (case Tw9 => k_asm); (case hw9 => rfl); (case ew9 => rfl); (case kw9 => rfl); (case xw9 => rfl); k_whole))
  k_with "RaiseB" => (k_dflt (refine' raise_here ?Bw9 ?Fw9 ?Xw9 ?Nw9 ?Tw9 ?kw9 ?dw9 ?_; (case Bw9 => k_asm); (case Fw9 => k_asm); (case Xw9 => k_asm); (case Nw9 => k_asm); (case Tw9 => k_asm); (case kw9 => rfl); (case dw9 => ktr_room)); intro e9w dd9w tk9w k9w h9w R9w U9w)
  k_with "leaving ref" => (k_here; (refine' raise_next ?Kw9 ?Fw9 ?Rw9 ?Uw9 ?_; (case Rw9 => assumption); (case Kw9 => assumption); (case Uw9 => assumption); (case Fw9 => assumption)); intro h9w R9w U9w)
  k_with "compareOp NotIn bytes ref" => (k_here; k_dflt (refine' notin_signs ?Nw9 ?tw9 ?iw9 ?_; (case Nw9 => k_asm); (case tw9 => k_mem); (case iw9 => first | assumption | exact .cons .nil | exact .cons (.cons .nil) | exact .cons (.cons (.cons .nil))); k_whole))
  k_with "call ref" => (k_here; (with_reducible show wpAny _ _ (call (Value.ref _) _ _) _ _ _); (fail_if_success (with_reducible show wpAny _ _ (call (Value.ref 78) _ _) _ _ _)); (fail_if_success (with_reducible show wpAny _ _ (call (Value.ref 175) _ _) _ _ _)); refine stop_of ?_)
  k_with "UnrEnd" => (k_here; (refine' unr_keep ?Fw9 ?Nw9 ?ow9 ?_; (case Fw9 => assumption); (case Nw9 => k_asm); (case ow9 => exact fun p hp => Nat.ne_of_lt ((by assumption : ∀ p ∈ _, p.1 < _) p hp)); k_whole))
  k_with "exec While BoolOp" => (k_here; k_dflt (refine whl_start 100 ?_))
  k_with "execs cons" => (k_here; (try k_gentoks); (try (refine fold_Q ?_; intro qk9w ek9w)); (with_reducible refine wpAny_execs_cons ?_); (try dsimp only))
  k_with "storeName" => (k_here; k_dflt (refine' storeX_M ?Fw9 ?Nw9 ?_ ?aw9 ?bw9; (case Fw9 => k_asm); (case Nw9 => k_asm); (case aw9 => rfl); (case bw9 => rfl); k_whole; intro m9w h'w t9w F'w N'w; (try k_sweep); (try dsimp only)))
  k_with "storeName" => (k_here; (first | with_reducible refine tok_intA ?_ | with_reducible refine tok_intS ?_ | with_reducible refine tok_bytA ?_ | with_reducible refine tok_bytS ?_); intro t9w)
  k_with "call builtin:list.append" => (k_here; (first | with_reducible refine tok_appA ?_ | with_reducible refine tok_appS ?_); intro t9w)
  k_with "WhlRest" => (k_here; refine stop_of ?_)
  k_with "execs cons" => (with_reducible refine wpAny_execs_cons ?_)
  k_with "execs nil" => (with_reducible refine wpAny_execs_nil ?_)
  trivial
theorem two_at {o : List UInt8} {p : Nat} {a b : UInt8} (ha : o[p]? = some a) (hb : o[p+1]? = some b) : (o.take ((p : Int) + 1 + 1).toNat).drop (p : Int).toNat = [a, b] := by
  have e1 : ((p : Int) + 1 + 1).toNat = p + 1 + 1 := by omega
  have e2 : (p : Int).toNat = p := by omega
  rw [e1, e2, List.take_add_one, List.take_add_one, ha, hb]
  have hp := (List.getElem?_eq_some_iff.mp hb).1
  simp [List.length_take, Nat.min_eq_left (show p ≤ o.length by omega)]
theorem nil_at {o : List UInt8} {p : Nat} : (o.take (p : Int).toNat).drop (p : Int).toNat = [] := by
  rw [List.drop_eq_nil_iff, List.length_take]
  omega
section
variable {w : World} {mean : ExcName → Option Value} {mg mb : Str → Option Value}
theorem c_number2 (rd rdd : Addr) (D : Obj) (o : List UInt8) (p : Nat) (d : Int) (hD : IsRd w D o p d) (rest : Led) (ho : o.length ≤ 1000)
   (hr : ∀ q ∈ rest, q.1 ≠ rdd) (hrd : rd ≠ rdd) (a b : UInt8) (ha : o[p]? = some a) (h1 : 48 < a.toNat) (h2 : a.toNat ≤ 57) (hb : o[p+1]? = some b) (h3 : 48 ≤ b.toNat) (h4 : b.toNat ≤ 57) (hc : ∀ c, o[p+1+1]? = some c → ¬ (48 ≤ c.toNat ∧ c.toNat ≤ 57)) :
   CT w mean mg mb 165 [.ref rd] 10 ((rd, instObj 175 rdd) :: (rdd, D) :: rest)
     (fun r n' => ∃ u' D', r = .int (10 * ((a.toNat : Int) - 48) + ((b.toNat : Int) - 48)) u' ∧ IsRd w D' o (p+1+1 : Nat) d ∧ n' = (rd, instObj 175 rdd) :: (rdd, D') :: rest) := by
  revert D
  refine isRd_all ?_
  intro k1 k2 k3 t1 t2 t3
  intro dp un gd cn cs a0 ccd cl outer A₀ base h₀ L m s Q E B F X N T hk hdp hun hQ
  refine wpAny_call ?_
  k_dflt ktr_enter
  rename Fr _ _ _ _ => lF9
  refine fold_m lF9 ?_
  clear lF9
  intro m9 lF9
  have hone := two_at ha hb
  obtain ⟨hg, hl⟩ := figs_get ha
  obtain ⟨hg1, hl1⟩ := figs_get hb
  have e2 : (((p + 1 : Nat) : Int)) = (p : Int) + 1 := by omega
  rw [e2] at hg1 hl1
  have hn0 : (0 : Int) ≤ 10 * ((a.toNat : Int) - 48) + ((b.toNat : Int) - 48) := by omega
  have hn1 : 10 * ((a.toNat : Int) - 48) + ((b.toNat : Int) - 48) < 100 := by omega
  have hdec := dec2 h1 h2 h3 h4
  have hsame : (([a, b].toArray.toList) != ([a, b].toArray.toList)) = false := by simp
  have e3 : (((p + 1 + 1 : Nat) : Int)) = (p : Int) + 1 + 1 := by omega
  k_steps
  unfold Stop
  k_dflt (refine' whl_turn ?hE ?_; (case hE => first | passes_own | with_unfolding_all passes_own))
  (try k_sweep)
  k_steps
  unfold Stop
  k_dflt (refine' whl_turn ?hE ?_; (case hE => first | passes_own | with_unfolding_all passes_own))
  (try k_sweep)
  k_steps
  unfold Stop
  k_dflt (refine' whl_turn ?hE ?_; (case hE => first | passes_own | with_unfolding_all passes_own))
  (try k_sweep)
  refine join_test (by k_asm) (by k_asm) ?ht ?_
  case ht =>
    cases hq : o[p+1+1]? with
    | none =>
      have hl2 : ¬ ((p : Int) + 1 + 1 < (o.length : Int)) := by
        have := List.getElem?_eq_none_iff.mp hq
        omega
      k_steps
      exact JQ.mk (by assumption) (by assumption)
    | some c =>
      obtain ⟨hg2, hl2⟩ := figs_get hq
      rw [e3] at hg2 hl2
      have hnb := hc _ hq
      by_cases h5 : 48 ≤ c.toNat
      · have h6 : ¬ c.toNat ≤ 57 := fun z => hnb ⟨h5, z⟩
        k_steps
        exact JQ.mk (by assumption) (by assumption)
      · skip
        k_steps
        exact JQ.mk (by assumption) (by assumption)
  intro h' tk' F' N'
  k_sweep
  refine WhlIf.no rfl ?_
  k_steps
  unfold Stop
  (try (refine fold_Q ?_; intro qk9 ek9)); k_dflt (refine CT.use (c_numof2 a b _ (by omega) h2 h3 h4 _) (by k_asm) (by k_asm) (by k_asm) (by k_asm) (by k_asm) (by first | assumption | exact rfl) (by first | exact room_of hdp (by first | exact Nat.le_of_ble_eq_true rfl | exact Nat.le_add_right_of_le (Nat.le_of_ble_eq_true rfl) | omega) | (simp only [depth_under_make, depth_under_kw, depth_in1, depth_deeper, depth_caller, ktrTop]; omega) | ktr_room) (by first | exact units_of hun (by first | exact Nat.le_of_ble_eq_true rfl | exact Nat.le_add_right_of_le (Nat.le_of_ble_eq_true rfl) | omega) | (simp only [units_in1, units_deeper, Around.mark_units, units_caller, ktrTop]; omega) | ((try simp only [units_in1, units_deeper, Around.mark_units, units_caller] at *); (try dsimp only [ktrTop] at *); omega)) ?_)
  refine use3 ?_
  intro h' tk' F' P9 rQ9 nQ9 kQ9
  obtain ⟨u, er9, en9⟩ := kQ9
  refine eq_rn er9 en9 ?_
  clear er9 en9
  (try clear nQ9)
  (try clear rQ9)
  intro N'
  (try clear P9)
  k_sweep
  k_steps
  unfold Stop
  (try (refine fold_Q ?_; intro qk9 ek9)); k_dflt (refine CT.use (c_dec _ _ hn0 hn1 _) (by k_asm) (by k_asm) (by k_asm) (by k_asm) (by k_asm) (by first | assumption | exact rfl) (by first | exact room_of hdp (by first | exact Nat.le_of_ble_eq_true rfl | exact Nat.le_add_right_of_le (Nat.le_of_ble_eq_true rfl) | omega) | (simp only [depth_under_make, depth_under_kw, depth_in1, depth_deeper, depth_caller, ktrTop]; omega) | ktr_room) (by first | exact units_of hun (by first | exact Nat.le_of_ble_eq_true rfl | exact Nat.le_add_right_of_le (Nat.le_of_ble_eq_true rfl) | omega) | (simp only [units_in1, units_deeper, Around.mark_units, units_caller, ktrTop]; omega) | ((try simp only [units_in1, units_deeper, Around.mark_units, units_caller] at *); (try dsimp only [ktrTop] at *); omega)) ?_)
  refine use3 ?_
  intro h' tk' F' P9 rQ9 nQ9 kQ9
  obtain ⟨u2, er9, en9⟩ := kQ9
  refine eq_rn er9 en9 ?_
  clear er9 en9
  (try clear nQ9)
  (try clear rQ9)
  intro N'
  (try clear P9)
  rw [hdec]
  k_sweep
  k_steps
  exact hQ _ _ _ _ (by assumption) (by assumption) ⟨_, _, rfl, isRd_mk, rfl⟩
theorem c_number0 (rd rdd : Addr) (D : Obj) (o : List UInt8) (p : Nat) (d : Int) (hD : IsRd w D o p d) (rest : Led) (ho : o.length ≤ 1000)
   (hr : ∀ q ∈ rest, q.1 ≠ rdd) (hrd : rd ≠ rdd) (hc : ∀ c, o[p]? = some c → ¬ (48 ≤ c.toNat ∧ c.toNat ≤ 57)) :
   CTR w mean mg mb 165 [.ref rd] 10 ((rd, instObj 175 rdd) :: (rdd, D) :: rest) (fun _ _ => False) (fun n => n = p) rest := by
  revert D
  refine isRd_all ?_
  intro k1 k2 k3 t1 t2 t3
  intro dp un gd cn cs a0 ccd cl outer A₀ base h₀ L m s Q E B F X N T hk hdp hun hQ hE
  refine wpAny_call ?_
  k_dflt ktr_enter
  rename Fr _ _ _ _ => lF9
  refine fold_m lF9 ?_
  clear lF9
  intro m9 lF9
  have hone := @nil_at o p
  k_steps
  unfold Stop
  k_dflt (refine' whl_turn ?hE ?_; (case hE => first | passes_own | with_unfolding_all passes_own))
  (try k_sweep)
  refine join_test (by k_asm) (by k_asm) ?ht ?_
  case ht =>
    cases hq : o[p]? with
    | none =>
      have hl2 : ¬ ((p : Int) < (o.length : Int)) := by
        have := List.getElem?_eq_none_iff.mp hq
        omega
      k_steps
      exact JQ.mk (by assumption) (by assumption)
    | some c =>
      obtain ⟨hg2, hl2⟩ := figs_get hq
      have hnb := hc _ hq
      by_cases h5 : 48 ≤ c.toNat
      · have h6 : ¬ c.toNat ≤ 57 := fun z => hnb ⟨h5, z⟩
        k_steps
        exact JQ.mk (by assumption) (by assumption)
      · skip
        k_steps
        exact JQ.mk (by assumption) (by assumption)
  intro h' tk' F' N'
  k_sweep
  refine WhlIf.no rfl ?_
  k_steps
  unfold Stop
  (try (refine fold_Q ?_; intro qk9 ek9)); k_dflt (refine CT.use (c_numof0 _ _) (by k_asm) (by k_asm) (by k_asm) (by k_asm) (by k_asm) (by first | assumption | exact rfl) (by first | exact room_of hdp (by first | exact Nat.le_of_ble_eq_true rfl | exact Nat.le_add_right_of_le (Nat.le_of_ble_eq_true rfl) | omega) | (simp only [depth_under_make, depth_under_kw, depth_in1, depth_deeper, depth_caller, ktrTop]; omega) | ktr_room) (by first | exact units_of hun (by first | exact Nat.le_of_ble_eq_true rfl | exact Nat.le_add_right_of_le (Nat.le_of_ble_eq_true rfl) | omega) | (simp only [units_in1, units_deeper, Around.mark_units, units_caller, ktrTop]; omega) | ((try simp only [units_in1, units_deeper, Around.mark_units, units_caller] at *); (try dsimp only [ktrTop] at *); omega)) ?_)
  refine use3 ?_
  intro h' tk' F' P9 rQ9 nQ9 kQ9
  obtain ⟨er9, en9⟩ := kQ9
  refine eq_rn er9 en9 ?_
  clear er9 en9
  (try clear nQ9)
  (try clear rQ9)
  intro N'
  (try clear P9)
  k_sweep
  k_steps
  exact hE _ _ _ _ _ _ _ _ _ rfl (by assumption) (by assumption) (.head _) (fun q hq => .tail _ (.tail _ (.tail _ hq))) (by assumption)
end
end Mine

namespace Mine
local macro_rules | `(tactic| omega) => `(tactic| lia)
theorem words_P1 : True := by
  k_with_none
  trivial
inductive T where
  | pane (w h x y n : Int)
  | two (row : Bool) (w h x y : Int) (a b : T)
  | three (row : Bool) (w h x y : Int) (a b c : T)
def T.box (row : Bool) (w h x y : Int) : List T → Option T
  | [a, b] => some (.two row w h x y a b)
  | [a, b, c] => some (.three row w h x y a b c)
  | _ => none
/-- what a reading gives: not told here, a refusal at p, a value with the place behind it -/
inductive Res (α : Type) where
  | out
  | bad (p : Nat)
  | ok (a : α) (p : Nat)
def Res.bind {α β : Type} (r : Res α) (f : α → Nat → Res β) : Res β := match r with
  | .out => .out
  | .bad p => .bad p
  | .ok a p => f a p
def isDig (c : UInt8) : Bool := 48 ≤ c.toNat && c.toNat ≤ 57
def dig (o : List UInt8) (p : Nat) : Option UInt8 := match o[p]? with
  | some c => if isDig c then some c else none
  | none => none
def pnum (o : List UInt8) (p : Nat) : Res Int := match dig o p with
  | none => .bad p
  | some a => match dig o (p + 1) with
    | none => .ok ((a.toNat : Int) - 48) (p + 1)
    | some b => if a.toNat = 48 then .out else match dig o (p + 1 + 1) with
      | none => .ok (10 * ((a.toNat : Int) - 48) + ((b.toNat : Int) - 48)) (p + 1 + 1)
      | some _ => .out
def psign (o : List UInt8) (p : Nat) (sg : List UInt8) : Res UInt8 := match o[p]? with
  | some c => if c ∈ sg then .ok c (p + 1) else .bad p
  | none => .bad p
def phead (o : List UInt8) (p : Nat) : Res (Int × Int × Int × Int × UInt8) :=
  (pnum o p).bind fun n0 p => (psign o p [120]).bind fun _ p => (pnum o p).bind fun n1 p => (psign o p [44]).bind fun _ p =>
  (pnum o p).bind fun n2 p => (psign o p [44]).bind fun _ p => (pnum o p).bind fun n3 p => (psign o p [44, 123, 91]).bind fun c p => .ok (n0, n1, n2, n3, c) p
def pparts (o : List UInt8) (cp : Nat → Res T) (cl : UInt8) : Nat → Nat → Res (List T)
  | 0, _ => .out
  | g + 1, p => (cp p).bind fun t p => (psign o p [44, cl]).bind fun c p => if c = 44 then (pparts o cp cl g p).bind fun ts p => .ok (t :: ts) p else .ok [t] p
def pcell (o : List UInt8) : Nat → Nat → Res T
  | 0, _ => .out
  | f + 1, p => (phead o p).bind fun n p => if n.2.2.2.2 = 44 then (pnum o p).bind fun k p => .ok (.pane n.1 n.2.1 n.2.2.1 n.2.2.2.1 k) p
    else (pparts o (pcell o f) (if n.2.2.2.2 = 123 then 125 else 93) f p).bind fun ts p => (match T.box (n.2.2.2.2 == 123) n.1 n.2.1 n.2.2.1 n.2.2.2.1 ts with | some t => .ok t p | none => .out)
theorem dig_some {o : List UInt8} {p : Nat} {a : UInt8} (h : dig o p = some a) : o[p]? = some a ∧ 48 ≤ a.toNat ∧ a.toNat ≤ 57 := by
  unfold dig at h
  split at h
  · split at h
    · rename_i c hc hd
      cases h
      unfold isDig at hd
      simp only [Bool.and_eq_true, decide_eq_true_eq] at hd
      exact ⟨hc, hd.1, hd.2⟩
    · cases h
  · cases h
theorem dig_none {o : List UInt8} {p : Nat} (h : dig o p = none) : ∀ c, o[p]? = some c → ¬ (48 ≤ c.toNat ∧ c.toNat ≤ 57) := by
  intro c hc hd
  unfold dig at h
  rw [hc] at h
  have : isDig c = true := by
    unfold isDig
    simp only [Bool.and_eq_true, decide_eq_true_eq]
    exact hd
  simp [this] at h
section
variable {w : World} {mean : ExcName → Option Value} {mg mb : Str → Option Value} {f : Addr} {args : List Value} {lim : Nat} {news : Led} {K K' : Value → Led → Prop} {KR KR' : Int → Prop} {keep : Led}
theorem CT.ctr (C : CT w mean mg mb f args lim news K) (h : ∀ r n, K r n → K' r n) : CTR w mean mg mb f args lim news K' KR keep :=
  fun _ _ _ _ _ _ _ _ _ _ _ _ _ _ _ _ _ B F X N T hk hd hu hQ _ => C _ _ _ _ _ _ _ _ _ _ _ _ _ _ _ _ _ B F X N T hk hd hu fun r n h' tk F' N' k => hQ r n h' tk F' N' (h r n k)
theorem CTR.mono (C : CTR w mean mg mb f args lim news K KR keep) (h : ∀ r n, K r n → K' r n) (h' : ∀ n, KR n → KR' n) : CTR w mean mg mb f args lim news K' KR' keep :=
  fun _ _ _ _ _ _ _ _ _ _ _ _ _ _ _ _ _ B F X N T hk hd hu hQ hE => C _ _ _ _ _ _ _ _ _ _ _ _ _ _ _ _ _ B F X N T hk hd hu (fun r n h' tk F' N' k => hQ r n h' tk F' N' (h r n k))
    fun e dd gg tk n u nr h1 tk' k => hE e dd gg tk n u nr h1 tk' (h' n k)
theorem c_number (rd rdd : Addr) (D : Obj) (o : List UInt8) (p : Nat) (d : Int) (hD : IsRd w D o p d) (rest : Led) (ho : o.length ≤ 1000) (hr : ∀ q ∈ rest, q.1 ≠ rdd) (hrd : rd ≠ rdd) (hout : pnum o p ≠ .out) :
   CTR w mean mg mb 165 [.ref rd] 10 ((rd, instObj 175 rdd) :: (rdd, D) :: rest)
     (fun r n' => ∃ n q u' D', pnum o p = .ok n q ∧ r = .int n u' ∧ IsRd w D' o (q : Nat) d ∧ n' = (rd, instObj 175 rdd) :: (rdd, D') :: rest)
     (fun n => ∃ k : Nat, pnum o p = .bad k ∧ n = k) rest := by
  unfold pnum at hout ⊢
  cases h0 : dig o p with
  | none =>
    refine (c_number0 rd rdd D o p d hD rest ho hr hrd (dig_none h0)).mono (fun _ _ h => h.elim) fun n h => ?_
    exact ⟨p, rfl, h⟩
  | some a =>
    obtain ⟨ha, ha1, ha2⟩ := dig_some h0
    rw [h0] at hout
    dsimp only at hout ⊢
    cases h1 : dig o (p + 1) with
    | none =>
      refine (c_number1 rd rdd D o p d hD rest ho hr hrd a ha ha1 ha2 (dig_none h1)).ctr fun r n h => ?_
      obtain ⟨u, D', e, hD', e'⟩ := h
      exact ⟨_, _, u, D', rfl, e, hD', e'⟩
    | some b =>
      obtain ⟨hb, hb1, hb2⟩ := dig_some h1
      rw [h1] at hout
      dsimp only at hout ⊢
      by_cases hz : a.toNat = 48
      · rw [if_pos hz] at hout
        exact absurd rfl hout
      rw [if_neg hz] at hout
      rw [if_neg hz]
      cases h2 : dig o (p + 1 + 1) with
      | none =>
        refine (c_number2 rd rdd D o p d hD rest ho hr hrd a b ha (by omega) ha2 hb hb1 hb2 (dig_none h2)).ctr fun r n h => ?_
        obtain ⟨u, D', e, hD', e'⟩ := h
        exact ⟨_, _, u, D', rfl, e, hD', e'⟩
      | some c =>
        rw [h2] at hout
        exact absurd rfl hout
theorem c_psign (rd rdd tup : Addr) (D : Obj) (o : List UInt8) (p : Nat) (d : Int) (hD : IsRd w D o p d) (sg : List UInt8) (vs : List Value) (hcs : SignsAre vs sg) (n1 : Nat) (rest : Led) (ho : o.length ≤ 1000)
   (hr : ∀ q ∈ rest, q.1 ≠ rdd) (htr : tup ≠ rdd) (hrd : rd ≠ rdd) :
   CTR w mean mg mb 158 [.ref rd, .ref tup] 10 ((rd, instObj 175 rdd) :: (rdd, D) :: (tup, { cls := .type "tuple", data := .seq vs.toArray n1 }) :: rest)
     (fun r n' => ∃ c u' q D', psign o p sg = .ok c q ∧ r = .bytes [c].toArray u' ∧ IsRd w D' o (q : Nat) d ∧ n' = (rd, instObj 175 rdd) :: (rdd, D') :: rest)
     (fun n => ∃ k : Nat, psign o p sg = .bad k ∧ n = k) rest := by
  intro dp un gd cn cs a ccd cl outer A₀ base h₀ L m s Q E B F X N T hk hdp hun hQ hE
  refine c_sign rd rdd tup D o p d hD sg vs hcs n1 rest ho hr htr hrd dp un gd cn cs a ccd cl outer A₀ base h₀ L m s Q E B F X N T hk hdp hun ?_ ?_
  · refine use3 ?_
    intro h' tk' F' P9 rQ9 nQ9 kQ9
    obtain ⟨c, u', D', hc, hm, er9, hD', en9⟩ := kQ9
    refine eq_rn er9 en9 ?_
    clear er9 en9
    (try clear nQ9)
    (try clear rQ9)
    intro N'
    (try clear P9)
    refine hQ _ ((rd, instObj 175 rdd) :: (rdd, D') :: rest) h' tk' F' (News.subs N' fun q hq => ?_) ⟨c, u', p + 1, D', ?_, rfl, hD', rfl⟩
    · rcases List.mem_cons.mp hq with rfl | hq
      · exact .head _
      rcases List.mem_cons.mp hq with rfl | hq
      · exact .tail _ (.head _)
      exact .tail _ (.tail _ (.tail _ hq))
    · unfold psign
      rw [hc]
      simp [hm]
  · rintro e dd gg tk n u newsR h' tk' ⟨rfl, hn⟩ F1 R1 hm hk2 U1
    refine hE e dd gg tk _ u newsR h' tk' ⟨p, ?_, rfl⟩ F1 R1 hm hk2 U1
    unfold psign
    cases hc : o[p]? with
    | none => rfl
    | some c => simp [hn c hc]
end
end Mine

namespace Mine
local macro_rules | `(tactic| omega) => `(tactic| lia)
theorem words_C6b0 : True := by
  k_with_none
  k_with "exec If" => (k_here; (with_reducible refine wpAny_If ?_); (refine fold_Q1 ?_; intro qk8w))
  k_with "exec Assign" => (k_here; (refine wpAny_Assign_Name ?_); (refine fold_Q1 ?_; intro qk8w))
  k_with "exec Return some" => (k_here; (refine wpAny_Return_some ?_); (refine fold_Q1 ?_; intro qk8w))
  k_with "eval Name" => (k_here; name_kind "globalImplicit"; (fail_if_success (with_reducible show wpAny _ _ (eval _ (compEnvC _ _ _ _)) _ _ _)); k_dflt (first | (name_is_builtin; refine' nameX_B ?Fw9 ?Xw9 ?Tw9 ?ew9 ?vw9 ?nw9 ?_ ?aw9 ?bw9; (case Fw9 => k_asm); (case Xw9 => k_asm); (case Tw9 => k_asm); (case aw9 => rfl); (case bw9 => rfl); (case ew9 => k_is); (case vw9 => boot_fast); (case nw9 => decide); k_whole) | (refine' nameX_K ?Fw9 ?Xw9 ?Tw9 ?ew9 ?_ ?aw9 ?bw9; (case Fw9 => k_asm); (case Xw9 => k_asm); (case Tw9 => k_asm); (case aw9 => rfl); (case bw9 => rfl); (case ew9 => k_is); k_whole)))
  k_with "eval Name" => (k_here; name_kind "local"; (fail_if_success (with_reducible show wpAny _ _ (eval _ (compEnvC _ _ _ _)) _ _ _)); k_dflt (refine' nameX_L ?Fw9 ?vw9 ?_ ?aw9 ?bw9; (case Fw9 => k_asm); (case aw9 => rfl); (case bw9 => rfl); (case vw9 => rfl); k_whole))
  k_with "eval Attribute Name" => (k_here; k_dflt (refine' own_L ?Fw9 ?Xw9 ?vw9 ?Nw9 ?iw9 ?jw9 ?k4w9 ?k5w9 ?k6w9 ?k7w9 ?k8w9 ?k9w9 ?_ ?aw9 ?bw9 ?cw9; (case Fw9 => k_asm); (case Xw9 => k_asm); (case aw9 => rfl); (case bw9 => rfl); (case cw9 => exact rfl); (case vw9 => rfl); (case Nw9 => k_asm); (case iw9 => k_mem); (case jw9 => k_mem); (case k4w9 => k_is); (case k5w9 => k_is); (case k6w9 => k_is); (case k7w9 => k_is); (case k8w9 => k_get); (case k9w9 => k_handed); k_whole))
  k_with "getAttr ref" => (k_here; k_dflt (refine' get_own ?k1w9 ?k2w9 ?k3w9 ?k4w9 ?k5w9 ?k6w9 ?k7w9 ?k8w9 ?k9w9 ?_; (case k1w9 => k_asm); (case k2w9 => k_asm); (case k3w9 => k_inst); (case k4w9 => k_is); (case k5w9 => k_is); (case k6w9 => k_is); (case k7w9 => k_is); (case k8w9 => k_get); (case k9w9 => k_handed); k_whole))
  k_with "ite" => (first | with_reducible refine ite_tt ?_ | with_reducible refine ite_ff ?_ | with_reducible refine ite_True_then ?_)
  k_with "WhlIf" => (first | (refine WhlIf.yes (by (simp only [decide_eq_true_eq]; omega)) ?_) | (refine WhlIf.no (by (simp only [decide_eq_false_iff_not]; omega)) ?_))
  k_with "subscriptTail" => (k_here; (with_reducible show wpAny _ _ (subscriptTail _ (PySem.Expr.Slice _ _ none _) (Value.bytes (List.toArray _) _) (Value.ref _)) _ _ _); (with_reducible rename Fr _ _ _ _ => F'w); (with_reducible rename News _ _ _ _ => N'w); first | (refine bslice_ij (s := ⟨_, _, _, _, _⟩) F'w N'w (by omega) (by omega) (by omega) (by first | with_reducible assumption | exact rfl) ?_; intro h'w t'w k'w F'w N'w; (try k_sweep)) | (refine bslice_j (s := ⟨_, _, _, _, _⟩) F'w N'w (by omega) (by omega) (by first | with_reducible assumption | exact rfl) ?_; intro h'w t'w k'w F'w N'w; (try k_sweep)) | (refine bslice_i (s := ⟨_, _, _, _, _⟩) F'w N'w (by omega) (by omega) (by first | with_reducible assumption | exact rfl) ?_; intro h'w t'w k'w F'w N'w; (try k_sweep)))
  k_with "exec Raise some none" => (k_here; (with_reducible show wpAny _ _ (exec (Stmt.Raise (some (PySem.Expr.Call (PySem.Expr.Name _ _) [_] [] _)) none _) _) _ _ _); k_dflt (refine' Raise_bad ?Fw9 ?Xw9 ?Tw9 ?hw9 ?_ ?ew9 ?kw9 ?xw9; (case Fw9 => k_asm); (case Xw9 => k_asm); (case Tw9 => k_asm); (case hw9 => rfl); (case ew9 => rfl); (case kw9 => rfl); (case xw9 => rfl); k_whole))
  k_with "RaiseB" => (k_dflt (refine' raise_here ?Bw9 ?Fw9 ?Xw9 ?Nw9 ?Tw9 ?kw9 ?dw9 ?_; (case Bw9 => k_asm); (case Fw9 => k_asm); (case Xw9 => k_asm); (case Nw9 => k_asm); (case Tw9 => k_asm); (case kw9 => rfl); (case dw9 => ktr_room)); intro e9w dd9w tk9w k9w h9w R9w U9w)
  k_with "leaving ref" => (k_here; (refine' raise_next ?Kw9 ?Fw9 ?Rw9 ?Uw9 ?_; (case Rw9 => assumption); (case Kw9 => assumption); (case Uw9 => assumption); (case Fw9 => assumption)); intro h9w R9w U9w)
  k_with "compareOp NotIn bytes ref" => (k_here; k_dflt (refine' notin_signs ?Nw9 ?tw9 ?iw9 ?_; (case Nw9 => k_asm); (case tw9 => k_mem); (case iw9 => first | assumption | exact .cons .nil | exact .cons (.cons .nil) | exact .cons (.cons (.cons .nil))); k_whole))
  k_with "call ref" => (k_here; (with_reducible show wpAny _ _ (call (Value.ref _) _ _) _ _ _); (fail_if_success (with_reducible show wpAny _ _ (call (Value.ref 78) _ _) _ _ _)); (fail_if_success (with_reducible show wpAny _ _ (call (Value.ref 175) _ _) _ _ _)); refine stop_of ?_)
  k_with "UnrEnd" => (k_here; (refine' unr_keep ?Fw9 ?Nw9 ?ow9 ?_; (case Fw9 => assumption); (case Nw9 => k_asm); (case ow9 => exact fun p hp => Nat.ne_of_lt ((by assumption : ∀ p ∈ _, p.1 < _) p hp)); k_whole))
  k_with "exec While BoolOp" => (k_here; k_dflt (refine whl_start 100 ?_))
  k_with "execs cons" => (k_here; (try k_gentoks); (try (refine fold_Q ?_; intro qk9w ek9w)); (with_reducible refine wpAny_execs_cons ?_); (try dsimp only))
  k_with "storeName" => (k_here; k_dflt (refine' storeX_M ?Fw9 ?Nw9 ?_ ?aw9 ?bw9; (case Fw9 => k_asm); (case Nw9 => k_asm); (case aw9 => rfl); (case bw9 => rfl); k_whole; intro m9w h'w t9w F'w N'w; (try k_sweep); (try dsimp only)))
  k_with "storeName" => (k_here; (first | with_reducible refine tok_intA ?_ | with_reducible refine tok_intS ?_ | with_reducible refine tok_bytA ?_ | with_reducible refine tok_bytS ?_); intro t9w)
  k_with "call builtin:list.append" => (k_here; (first | with_reducible refine tok_appA ?_ | with_reducible refine tok_appS ?_); intro t9w)
  trivial
abbrev cellD (w : World) (k1 k2 k3 k4 k5 k6 k7 : Tok) (kd wd hg x y ps pn : Value) : Obj :=
  W.dictOf [⟨PyData.keyHash w.params (Str.ofString "kind"), .str (Str.ofString "kind") k1, kd⟩, ⟨PyData.keyHash w.params (Str.ofString "width"), .str (Str.ofString "width") k2, wd⟩, ⟨PyData.keyHash w.params (Str.ofString "height"), .str (Str.ofString "height") k3, hg⟩,
    ⟨PyData.keyHash w.params (Str.ofString "x"), .str (Str.ofString "x") k4, x⟩, ⟨PyData.keyHash w.params (Str.ofString "y"), .str (Str.ofString "y") k5, y⟩, ⟨PyData.keyHash w.params (Str.ofString "parts"), .str (Str.ofString "parts") k6, ps⟩, ⟨PyData.keyHash w.params (Str.ofString "pane"), .str (Str.ofString "pane") k7, pn⟩] 7
/-- what Cell(..) gives: the cell and its dict ahead of the ledger -/
def MkCell (w : World) (kd : Str) (l : Addr) (pn : Value) (wd hg x y : Int) (t1 t2 t3 t4 t5 : Tok) (rest : Led) (r : Value) (n' : Led) : Prop :=
  ∃ a d k1 k2 k3 k4 k5 k6 k7, r = .ref a ∧ n' = (a, instObj 78 d) :: (d, cellD w k1 k2 k3 k4 k5 k6 k7 (.str kd t1) (.int wd t2) (.int hg t3) (.int x t4) (.int y t5) (.ref l) pn) :: rest ∧ (∀ p ∈ rest, p.1 < d) ∧ @LT.lt Nat _ d a
theorem MkCell.mk {w : World} {kd : Str} {l : Addr} {pn : Value} {wd hg x y : Int} {t1 t2 t3 t4 t5 : Tok} {rest : Led} {a d : Addr} {k1 k2 k3 k4 k5 k6 k7 : Tok} (h1 : ∀ p ∈ rest, p.1 < d) (h2 : @LT.lt Nat _ d a) :
    MkCell w kd l pn wd hg x y t1 t2 t3 t4 t5 rest (.ref a) ((a, instObj 78 d) :: (d, cellD w k1 k2 k3 k4 k5 k6 k7 (.str kd t1) (.int wd t2) (.int hg t3) (.int x t4) (.int y t5) (.ref l) pn) :: rest) :=
  ⟨_, _, _, _, _, _, _, _, _, rfl, rfl, h1, h2⟩
theorem MkCell.out {w : World} {kd : Str} {l : Addr} {pn : Value} {wd hg x y : Int} {t1 t2 t3 t4 t5 : Tok} {rest : Led} {P : Value → Led → Prop}
    (k : ∀ a d k1 k2 k3 k4 k5 k6 k7, (∀ p ∈ rest, p.1 < d) → @LT.lt Nat _ d a → P (.ref a) ((a, instObj 78 d) :: (d, cellD w k1 k2 k3 k4 k5 k6 k7 (.str kd t1) (.int wd t2) (.int hg t3) (.int x t4) (.int y t5) (.ref l) pn) :: rest)) : ∀ r n', MkCell w kd l pn wd hg x y t1 t2 t3 t4 t5 rest r n' → P r n' := by
  rintro r n' ⟨a, d, k1, k2, k3, k4, k5, k6, k7, rfl, rfl, h1, h2⟩
  exact k _ _ _ _ _ _ _ _ _ h1 h2
section
variable {w : World} {mean : ExcName → Option Value} {mg mb : Str → Option Value}
theorem c_mkcell (kd : Str) (l : Addr) (pn : Value) (hpn : pn = .none ∨ ∃ n u, pn = .int n u) (wd hg x y : Int) (t1 t2 t3 t4 t5 : Tok) (rest : Led) :
   CT w mean mg mb 78 [.str kd t1, .int wd t2, .int hg t3, .int x t4, .int y t5, .ref l, pn] 10 rest
     (MkCell w kd l pn wd hg x y t1 t2 t3 t4 t5 rest) := by
  intro dp un gd cn cs a ccd cl outer A₀ base h₀ L m s Q E B F X N T hk hdp hun hQ
  k_dflt (refine' call_cls ?k1 ?k2 ?k3 ?k4 ?k5 ?k6 ?_; (case k1 => k_asm); (case k2 => k_asm); (case k3 => k_asm); (case k4 => k_is); (case k5 => k_is); (case k6 => k_is); k_whole; intro x' d' h' F' N' l1 l2; (try k_lt l1); (try k_lt2 l2); (try k_sweep))
  k_dflt ktr_enter
  rename Fr _ _ _ _ => lF9
  refine fold_m lF9 ?_
  clear lF9
  intro m9 lF9
  k_steps
  refine hQ _ (_ :: _ :: rest) _ _ (by k_asm) (by k_asm) (MkCell.mk (tb_ltOf (by tbn_lt)) (by tbn_below))
end
end Mine

theorem Mine.pk_4_0123 {h₀ h : Heap} {L : Addr} {a0 a1 a2 a3 : Addr × Obj} {rest : List (Addr × Obj)} (N : News h₀ L h (a0 :: a1 :: a2 :: a3 :: rest)) : News h₀ L h (a0 :: a1 :: a2 :: a3 :: rest) := by
  intro p hp
  refine N p ?_
  simp only [List.mem_cons] at hp ⊢
  grind only
theorem Mine.pk_6_450123 {h₀ h : Heap} {L : Addr} {a0 a1 a2 a3 a4 a5 : Addr × Obj} {rest : List (Addr × Obj)} (N : News h₀ L h (a0 :: a1 :: a2 :: a3 :: a4 :: a5 :: rest)) : News h₀ L h (a4 :: a5 :: a0 :: a1 :: a2 :: a3 :: rest) := by
  intro p hp
  refine N p ?_
  simp only [List.mem_cons] at hp ⊢
  grind only
theorem Mine.pk_6_230145 {h₀ h : Heap} {L : Addr} {a0 a1 a2 a3 a4 a5 : Addr × Obj} {rest : List (Addr × Obj)} (N : News h₀ L h (a0 :: a1 :: a2 :: a3 :: a4 :: a5 :: rest)) : News h₀ L h (a2 :: a3 :: a0 :: a1 :: a4 :: a5 :: rest) := by
  intro p hp
  refine N p ?_
  simp only [List.mem_cons] at hp ⊢
  grind only
theorem Mine.pk_5_1204 {h₀ h : Heap} {L : Addr} {a0 a1 a2 a3 a4 : Addr × Obj} {rest : List (Addr × Obj)} (N : News h₀ L h (a0 :: a1 :: a2 :: a3 :: a4 :: rest)) : News h₀ L h (a1 :: a2 :: a0 :: a4 :: rest) := by
  intro p hp
  refine N p ?_
  simp only [List.mem_cons] at hp ⊢
  grind only
theorem Mine.pk_6_340125 {h₀ h : Heap} {L : Addr} {a0 a1 a2 a3 a4 a5 : Addr × Obj} {rest : List (Addr × Obj)} (N : News h₀ L h (a0 :: a1 :: a2 :: a3 :: a4 :: a5 :: rest)) : News h₀ L h (a3 :: a4 :: a0 :: a1 :: a2 :: a5 :: rest) := by
  intro p hp
  refine N p ?_
  simp only [List.mem_cons] at hp ⊢
  grind only
theorem Mine.pk_6_01234 {h₀ h : Heap} {L : Addr} {a0 a1 a2 a3 a4 a5 : Addr × Obj} {rest : List (Addr × Obj)} (N : News h₀ L h (a0 :: a1 :: a2 :: a3 :: a4 :: a5 :: rest)) : News h₀ L h (a0 :: a1 :: a2 :: a3 :: a4 :: rest) := by
  intro p hp
  refine N p ?_
  simp only [List.mem_cons] at hp ⊢
  grind only
theorem Mine.pk_7_45312 {h₀ h : Heap} {L : Addr} {a0 a1 a2 a3 a4 a5 a6 : Addr × Obj} {rest : List (Addr × Obj)} (N : News h₀ L h (a0 :: a1 :: a2 :: a3 :: a4 :: a5 :: a6 :: rest)) : News h₀ L h (a4 :: a5 :: a3 :: a1 :: a2 :: rest) := by
  intro p hp
  refine N p ?_
  simp only [List.mem_cons] at hp ⊢
  grind only
theorem Mine.pk_5_01342 {h₀ h : Heap} {L : Addr} {a0 a1 a2 a3 a4 : Addr × Obj} {rest : List (Addr × Obj)} (N : News h₀ L h (a0 :: a1 :: a2 :: a3 :: a4 :: rest)) : News h₀ L h (a0 :: a1 :: a3 :: a4 :: a2 :: rest) := by
  intro p hp
  refine N p ?_
  simp only [List.mem_cons] at hp ⊢
  grind only
namespace Mine
local macro_rules | `(tactic| omega) => `(tactic| lia)
theorem words_C70 : True := by
  k_with_none
  k_with "exec If" => (k_here; (with_reducible refine wpAny_If ?_); (refine fold_Q1 ?_; intro qk8w))
  k_with "exec Assign" => (k_here; (refine wpAny_Assign_Name ?_); (refine fold_Q1 ?_; intro qk8w))
  k_with "exec Return some" => (k_here; (refine wpAny_Return_some ?_); (refine fold_Q1 ?_; intro qk8w))
  k_with "eval Name" => (k_here; name_kind "globalImplicit"; (fail_if_success (with_reducible show wpAny _ _ (eval _ (compEnvC _ _ _ _)) _ _ _)); k_dflt (first | (name_is_builtin; refine' nameX_B ?Fw9 ?Xw9 ?Tw9 ?ew9 ?vw9 ?nw9 ?_ ?aw9 ?bw9; (case Fw9 => k_asm); (case Xw9 => k_asm); (case Tw9 => k_asm); (case aw9 => rfl); (case bw9 => rfl); (case ew9 => k_is); (case vw9 => boot_fast); (case nw9 => decide); k_whole) | (refine' nameX_K ?Fw9 ?Xw9 ?Tw9 ?ew9 ?_ ?aw9 ?bw9; (case Fw9 => k_asm); (case Xw9 => k_asm); (case Tw9 => k_asm); (case aw9 => rfl); (case bw9 => rfl); (case ew9 => k_is); k_whole)))
  k_with "eval Name" => (k_here; name_kind "local"; (fail_if_success (with_reducible show wpAny _ _ (eval _ (compEnvC _ _ _ _)) _ _ _)); k_dflt (refine' nameX_L ?Fw9 ?vw9 ?_ ?aw9 ?bw9; (case Fw9 => k_asm); (case aw9 => rfl); (case bw9 => rfl); (case vw9 => rfl); k_whole))
  k_with "eval Attribute Name" => (k_here; k_dflt (refine' own_L ?Fw9 ?Xw9 ?vw9 ?Nw9 ?iw9 ?jw9 ?k4w9 ?k5w9 ?k6w9 ?k7w9 ?k8w9 ?k9w9 ?_ ?aw9 ?bw9 ?cw9; (case Fw9 => k_asm); (case Xw9 => k_asm); (case aw9 => rfl); (case bw9 => rfl); (case cw9 => exact rfl); (case vw9 => rfl); (case Nw9 => k_asm); (case iw9 => k_mem); (case jw9 => k_mem); (case k4w9 => k_is); (case k5w9 => k_is); (case k6w9 => k_is); (case k7w9 => k_is); (case k8w9 => k_get); (case k9w9 => k_handed); k_whole))
  k_with "getAttr ref" => (k_here; k_dflt (refine' get_own ?k1w9 ?k2w9 ?k3w9 ?k4w9 ?k5w9 ?k6w9 ?k7w9 ?k8w9 ?k9w9 ?_; (case k1w9 => k_asm); (case k2w9 => k_asm); (case k3w9 => k_inst); (case k4w9 => k_is); (case k5w9 => k_is); (case k6w9 => k_is); (case k7w9 => k_is); (case k8w9 => k_get); (case k9w9 => k_handed); k_whole))
  k_with "ite" => (first | with_reducible refine ite_tt ?_ | with_reducible refine ite_ff ?_ | with_reducible refine ite_True_then ?_)
  k_with "WhlIf" => (first | (refine WhlIf.yes (by (simp only [decide_eq_true_eq]; omega)) ?_) | (refine WhlIf.no (by (simp only [decide_eq_false_iff_not]; omega)) ?_))
  k_with "subscriptTail" => (k_here; (with_reducible show wpAny _ _ (subscriptTail _ (PySem.Expr.Slice _ _ none _) (Value.bytes (List.toArray _) _) (Value.ref _)) _ _ _); (with_reducible rename Fr _ _ _ _ => F'w); (with_reducible rename News _ _ _ _ => N'w); first | (refine bslice_ij (s := ⟨_, _, _, _, _⟩) F'w N'w (by omega) (by omega) (by omega) (by first | with_reducible assumption | exact rfl) ?_; intro h'w t'w k'w F'w N'w; (try k_sweep)) | (refine bslice_j (s := ⟨_, _, _, _, _⟩) F'w N'w (by omega) (by omega) (by first | with_reducible assumption | exact rfl) ?_; intro h'w t'w k'w F'w N'w; (try k_sweep)) | (refine bslice_i (s := ⟨_, _, _, _, _⟩) F'w N'w (by omega) (by omega) (by first | with_reducible assumption | exact rfl) ?_; intro h'w t'w k'w F'w N'w; (try k_sweep)))
  k_with "exec Raise some none" => (k_here; (with_reducible show wpAny _ _ (exec (Stmt.Raise (some (PySem.Expr.Call (PySem.Expr.Name _ _) [_] [] _)) none _) _) _ _ _); k_dflt (refine' Raise_bad ?Fw9 ?Xw9 ?Tw9 ?hw9 ?_ ?ew9 ?kw9 ?xw9; (case Fw9 => k_asm); (case Xw9 => k_asm); (case Tw9 => k_asm); (case hw9 => rfl); (case ew9 => rfl); (case kw9 => rfl); (case xw9 => rfl); k_whole))
  k_with "RaiseB" => (k_dflt (refine' raise_here ?Bw9 ?Fw9 ?Xw9 ?Nw9 ?Tw9 ?kw9 ?dw9 ?_; (case Bw9 => k_asm); (case Fw9 => k_asm); (case Xw9 => k_asm); (case Nw9 => k_asm); (case Tw9 => k_asm); (case kw9 => rfl); (case dw9 => ktr_room)); intro e9w dd9w tk9w k9w h9w R9w U9w)
  k_with "leaving ref" => (k_here; (refine' raise_next ?Kw9 ?Fw9 ?Rw9 ?Uw9 ?_; (case Rw9 => assumption); (case Kw9 => assumption); (case Uw9 => assumption); (case Fw9 => assumption)); intro h9w R9w U9w)
  k_with "compareOp NotIn bytes ref" => (k_here; k_dflt (refine' notin_signs ?Nw9 ?tw9 ?iw9 ?_; (case Nw9 => k_asm); (case tw9 => k_mem); (case iw9 => first | assumption | exact .cons .nil | exact .cons (.cons .nil) | exact .cons (.cons (.cons .nil))); k_whole))
  k_with "call ref" => (k_here; (with_reducible show wpAny _ _ (call (Value.ref _) _ _) _ _ _); (fail_if_success (with_reducible show wpAny _ _ (call (Value.ref 78) _ _) _ _ _)); (fail_if_success (with_reducible show wpAny _ _ (call (Value.ref 175) _ _) _ _ _)); refine stop_of ?_)
  k_with "UnrEnd" => (k_here; (refine' unr_keep ?Fw9 ?Nw9 ?ow9 ?_; (case Fw9 => assumption); (case Nw9 => k_asm); (case ow9 => exact fun p hp => Nat.ne_of_lt ((by assumption : ∀ p ∈ _, p.1 < _) p hp)); k_whole))
  k_with "exec While BoolOp" => (k_here; k_dflt (refine whl_start 100 ?_))
  k_with "execs cons" => (k_here; (try k_gentoks); (try (refine fold_Q ?_; intro qk9w ek9w)); (with_reducible refine wpAny_execs_cons ?_); (try dsimp only))
  k_with "storeName" => (k_here; k_dflt (refine' storeX_M ?Fw9 ?Nw9 ?_ ?aw9 ?bw9; (case Fw9 => k_asm); (case Nw9 => k_asm); (case aw9 => rfl); (case bw9 => rfl); k_whole; intro m9w h'w t9w F'w N'w; (try k_sweep); (try dsimp only)))
  k_with "storeName" => (k_here; (first | with_reducible refine tok_intA ?_ | with_reducible refine tok_intS ?_ | with_reducible refine tok_bytA ?_ | with_reducible refine tok_bytS ?_); intro t9w)
  k_with "call builtin:list.append" => (k_here; (first | with_reducible refine tok_appA ?_ | with_reducible refine tok_appS ?_); intro t9w)
  k_with "call ref" => (k_here; (with_reducible show wpAny _ _ (call (Value.ref 78) _ _) _ _ _); refine stop_of ?_)
  k_with "callWith ref" => (k_here; (with_reducible show wpAny _ _ (callWith _ (Value.ref _) _ (backTo _ (starEach [] _)) []) _ _ _); k_dflt (refine' callWith_K0 ?k1w9 ?k2w9 ?_; (case k1w9 => k_in); (case k2w9 => k_is); k_whole))
  k_with "exec While Name" => (k_here; refine stop_of ?_)
  trivial
def Above (new base : Led) : Prop := ∀ q ∈ new, ∀ p ∈ base, p.1 < q.1
theorem above_of {l : Nat} {new base : Led} (h : AllLt l base) (hn : ∀ q ∈ new, l ≤ q.1) : Above new base := fun q hq p hp => Nat.lt_of_lt_of_le (tb_ltOf h p hp) (hn q hq)
theorem above3 {x d l : Addr} {ox od ol : Obj} {base : Led} (h : AllLt l base) (h1 : @LT.lt Nat _ l d) (h2 : @LT.lt Nat _ d x) : Above [(x, ox), (d, od), (l, ol)] base := by
  refine above_of h fun q hq => ?_
  simp only [List.mem_cons, List.not_mem_nil, or_false] at hq
  rcases hq with rfl | rfl | rfl
  · exact Nat.le_of_lt (Nat.lt_trans h1 h2)
  · exact Nat.le_of_lt h1
  · exact Nat.le_refl _
theorem list4 {h₀ h : Heap} {L l : Addr} {a b c : Addr × Obj} {v0 v1 v2 v3 : Value} {k : Nat} {rest : Led} (N : News h₀ L h (a :: b :: c :: (l, W.listOf (((#[v0].push v1).push v2).push v3) k) :: rest)) :
    News h₀ L h (a :: b :: c :: (l, W.listOf #[v0, v1, v2, v3] k) :: rest) := N
theorem bind_bad {α β : Type} {r : Res α} {k : Nat} {f : α → Nat → Res β} (h : r = .bad k) : r.bind f = .bad k := by rw [h]; rfl
theorem bad_up {α β : Type} {X : Res α} {f : α → Nat → Res β} {R : Res β} {n : Int} (hR : X.bind f = R) (h : ∃ k : Nat, X = .bad k ∧ n = k) : ∃ k : Nat, R = .bad k ∧ n = k := by
  obtain ⟨k, rfl, e⟩ := h
  exact ⟨k, hR.symm, e⟩
theorem bad_up2 {α β γ : Type} {X : Res α} {f : α → Nat → Res β} {g : β → Nat → Res γ} {R : Res γ} {n : Int} (hR : (X.bind f).bind g = R) (h : ∃ k : Nat, X = .bad k ∧ n = k) : ∃ k : Nat, R = .bad k ∧ n = k := by
  obtain ⟨k, rfl, e⟩ := h
  exact ⟨k, hR.symm, e⟩
theorem bad_up3 {α β γ δ : Type} {X : Res α} {f : α → Nat → Res β} {g : β → Nat → Res γ} {i : γ → Nat → Res δ} {R : Res δ} {n : Int} (hR : ((X.bind f).bind g).bind i = R) (h : ∃ k : Nat, X = .bad k ∧ n = k) : ∃ k : Nat, R = .bad k ∧ n = k := by
  obtain ⟨k, rfl, e⟩ := h
  exact ⟨k, hR.symm, e⟩
theorem bind_ok {α β : Type} {r : Res α} {a : α} {q : Nat} {f : α → Nat → Res β} (h : r = .ok a q) : r.bind f = f a q := by rw [h]; rfl
theorem bind_in {α β : Type} {r : Res α} {f : α → Nat → Res β} (h : r.bind f ≠ .out) : r ≠ .out := fun e => h (by rw [e]; rfl)
theorem endW2 {h₀ : Heap} {L : Addr} {it a b : Addr × Obj} {rest : (Str → Option Value) → List (Addr × Obj) → Prop} {s₁ : Shared} {h' : Heap} {tk : Nat} {m' : Str → Option Value} {news' : Led} (F : Fr h₀ L h' m') (N : News h₀ L h' (a :: b :: it :: news'))
    (oa : a.1 ≠ it.1) (ob : b.1 ≠ it.1) (off : ∀ p ∈ news', p.1 ≠ it.1) (r : rest m' (a :: b :: news')) : UnrEndW h₀ L s₁ [it] rest { s₁ with heap := h', toks := tk } :=
  ⟨h', tk, m', _, rfl, F, fun p hp => N p (by simp only [List.mem_append, List.mem_cons] at hp ⊢; grind), fun p hp q hq => by
    rw [List.mem_singleton.mp hq]
    rcases List.mem_cons.mp hp with rfl | hp
    · exact oa
    rcases List.mem_cons.mp hp with rfl | hp
    · exact ob
    exact off p hp, r⟩
theorem psign_mem {o : List UInt8} {p q : Nat} {sg : List UInt8} {c : UInt8} (h : psign o p sg = .ok c q) : c ∈ sg ∧ o[p]? = some c ∧ q = p + 1 := by
  unfold psign at h
  split at h
  · split at h
    · cases h
      exact ⟨by assumption, by assumption, rfl⟩
    · cases h
  · cases h
def kindS (row : Bool) : Str := if row then Str.ofString "row" else Str.ofString "column"
theorem nameK {w : World} {h₀ h : Heap} {L d lp : Addr} {a0 a1 : Addr × Obj} {r : Led} (k1 k2 k3 k4 k5 k6 k7 : Tok) (kd : Str) (n0 n1 n2 n3 : Int) {tk u0 u1 u2 u3 : Tok}
    (N : News h₀ L h (a0 :: a1 :: (d, cellD w k1 k2 k3 k4 k5 k6 k7 (.str kd tk) (.int n0 u0) (.int n1 u1) (.int n2 u2) (.int n3 u3) (.ref lp) .none) :: r)) :
    ∃ tk u0 u1 u2 u3, News h₀ L h (a0 :: a1 :: (d, cellD w k1 k2 k3 k4 k5 k6 k7 (.str kd tk) (.int n0 u0) (.int n1 u1) (.int n2 u2) (.int n3 u3) (.ref lp) .none) :: r) := ⟨tk, u0, u1, u2, u3, N⟩
/-- the ledger bears the cell t at v -/
inductive CellIn (w : World) (news : Led) : Value → T → Prop
  | pane {a d l : Addr} {k1 k2 k3 k4 k5 k6 k7 t1 t2 t3 t4 t5 t6 : Tok} {n : Nat} {wd hg x y pn : Int} : (a, instObj 78 d) ∈ news →
      (d, cellD w k1 k2 k3 k4 k5 k6 k7 (.str (Str.ofString "pane") t1) (.int wd t2) (.int hg t3) (.int x t4) (.int y t5) (.ref l) (.int pn t6)) ∈ news → (l, W.listOf #[] n) ∈ news → CellIn w news (.ref a) (.pane wd hg x y pn)
  | two {a d l : Addr} {k1 k2 k3 k4 k5 k6 k7 t1 t2 t3 t4 t5 : Tok} {n : Nat} {row : Bool} {wd hg x y : Int} {va vb : Value} {ta tb : T} : (a, instObj 78 d) ∈ news →
      (d, cellD w k1 k2 k3 k4 k5 k6 k7 (.str (kindS row) t1) (.int wd t2) (.int hg t3) (.int x t4) (.int y t5) (.ref l) .none) ∈ news → (l, W.listOf #[va, vb] n) ∈ news →
      CellIn w news va ta → CellIn w news vb tb → CellIn w news (.ref a) (.two row wd hg x y ta tb)
  | three {a d l : Addr} {k1 k2 k3 k4 k5 k6 k7 t1 t2 t3 t4 t5 : Tok} {n : Nat} {row : Bool} {wd hg x y : Int} {va vb vc : Value} {ta tb tc : T} : (a, instObj 78 d) ∈ news →
      (d, cellD w k1 k2 k3 k4 k5 k6 k7 (.str (kindS row) t1) (.int wd t2) (.int hg t3) (.int x t4) (.int y t5) (.ref l) .none) ∈ news → (l, W.listOf #[va, vb, vc] n) ∈ news →
      CellIn w news va ta → CellIn w news vb tb → CellIn w news vc tc → CellIn w news (.ref a) (.three row wd hg x y ta tb tc)
theorem CellIn.mono {w : World} {news news' : Led} {v : Value} {t : T} (h : CellIn w news v t) (hs : ∀ p ∈ news, p ∈ news') : CellIn w news' v t := by
  induction h with
  | pane h1 h2 h3 => exact .pane (hs _ h1) (hs _ h2) (hs _ h3)
  | two h1 h2 h3 _ _ i1 i2 => exact .two (hs _ h1) (hs _ h2) (hs _ h3) i1 i2
  | three h1 h2 h3 _ _ _ i1 i2 i3 => exact .three (hs _ h1) (hs _ h2) (hs _ h3) i1 i2 i3
theorem CellIn.ref {w : World} {news : Led} {v : Value} {t : T} (h : CellIn w news v t) : ∃ a, v = .ref a := by
  cases h <;> exact ⟨_, rfl⟩
theorem cell_mk {w : World} {D' : Obj} {o : List UInt8} {d : Int} {rdd : Addr} {a0 : Addr × Obj} {rest new B : Led} {X : Res T} {r : Value} {t : T} {q : Nat} (h1 : X = .ok t q) (h2 : IsRd w D' o (q : Nat) d) (h3 : CellIn w new r t) (h4 : Above new B) :
    ∃ t q D'' new', X = .ok t q ∧ IsRd w D'' o (q : Nat) d ∧ a0 :: (rdd, D') :: (new ++ rest) = a0 :: (rdd, D'') :: (new' ++ rest) ∧ CellIn w new' r t ∧ Above new' B := ⟨t, q, D', new, h1, h2, rfl, h3, h4⟩
theorem num_out {w : World} {o : List UInt8} {d : Int} {rdd : Addr} {a0 : Addr × Obj} {rest : Led} {X : Res Int} {P : Value → Led → Prop} (k : ∀ n q u k1 k2 k3 t1 t2 t3, X = .ok n q → P (.int n u) (a0 :: (rdd, rdD w k1 k2 k3 o (q : Nat) d t1 t2 t3) :: rest)) :
    ∀ r n', (∃ n q u' D', X = .ok n q ∧ r = .int n u' ∧ IsRd w D' o (q : Nat) d ∧ n' = a0 :: (rdd, D') :: rest) → P r n' := by
  rintro r n' ⟨n, q, u, D', h, rfl, ⟨k1, k2, k3, t1, t2, t3, rfl⟩, rfl⟩
  exact k _ _ _ _ _ _ _ _ _ h
theorem sign_out {w : World} {o : List UInt8} {d : Int} {rdd : Addr} {a0 : Addr × Obj} {rest : Led} {X : Res UInt8} {P : Value → Led → Prop} (k : ∀ c u q k1 k2 k3 t1 t2 t3, X = .ok c q → P (.bytes [c].toArray u) (a0 :: (rdd, rdD w k1 k2 k3 o (q : Nat) d t1 t2 t3) :: rest)) :
    ∀ r n', (∃ c u' q D', X = .ok c q ∧ r = .bytes [c].toArray u' ∧ IsRd w D' o (q : Nat) d ∧ n' = a0 :: (rdd, D') :: rest) → P r n' := by
  rintro r n' ⟨c, u, q, D', h, rfl, ⟨k1, k2, k3, t1, t2, t3, rfl⟩, rfl⟩
  exact k _ _ _ _ _ _ _ _ _ h
theorem cell_out {w : World} {o : List UInt8} {d : Int} {rdd : Addr} {a0 : Addr × Obj} {rest B : Led} {X : Res T} {P : Value → Led → Prop} (k : ∀ t q new k1 k2 k3 t1 t2 t3 a, X = .ok t q → CellIn w new (.ref a) t → Above new B → P (.ref a) (a0 :: (rdd, rdD w k1 k2 k3 o (q : Nat) d t1 t2 t3) :: (new ++ rest))) :
    ∀ r n', (∃ t q D' new, X = .ok t q ∧ IsRd w D' o (q : Nat) d ∧ n' = a0 :: (rdd, D') :: (new ++ rest) ∧ CellIn w new r t ∧ Above new B) → P r n' := by
  rintro r n' ⟨t, q, D', new, h, ⟨k1, k2, k3, t1, t2, t3, rfl⟩, rfl, hv, hab⟩
  obtain ⟨a, rfl⟩ := hv.ref
  exact k _ _ _ _ _ _ _ _ _ _ h hv hab
theorem reord {h₀ h : Heap} {L : Addr} {a b c d e : Addr × Obj} {n1 n r : Led} (N : News h₀ L h (a :: b :: (n1 ++ (c :: d :: e :: (n ++ r))))) : News h₀ L h (c :: a :: b :: d :: e :: ((n1 ++ n) ++ r)) := by
  intro p hp
  refine N p ?_
  simp only [List.mem_cons, List.mem_append] at hp ⊢
  grind only
theorem above_loop {fo fod lp rd rdd : Addr} {o1 o2 o3 o4 o5 : Obj} {new rest : Led} (h : AllLt lp rest) (hlo : @LT.lt Nat _ rd lp ∧ @LT.lt Nat _ rdd lp ∧ @LT.lt Nat _ lp fod ∧ @LT.lt Nat _ fod fo) (hn : ∀ q ∈ new, @LT.lt Nat _ fo q.1) :
    Above ((fo, o1) :: (fod, o2) :: (lp, o3) :: new) ((rd, o4) :: (rdd, o5) :: rest) := by
  obtain ⟨a, b, c, d⟩ := hlo
  refine above_of (l := lp) ⟨a, b, h⟩ fun q hq => ?_
  rcases List.mem_cons.mp hq with rfl | hq
  · exact Nat.le_of_lt (Nat.lt_trans c d)
  rcases List.mem_cons.mp hq with rfl | hq
  · exact Nat.le_of_lt c
  rcases List.mem_cons.mp hq with rfl | hq
  · exact Nat.le_refl _
  exact Nat.le_of_lt (Nat.lt_trans (Nat.lt_trans c d) (hn q hq))
inductive CellAll (w : World) (news : Led) : List Value → List T → Prop
  | nil : CellAll w news [] []
  | cons {v : Value} {t : T} {vs : List Value} {ts : List T} : CellIn w news v t → CellAll w news vs ts → CellAll w news (v :: vs) (t :: ts)
theorem CellAll.mono {w : World} {news news' : Led} {vs : List Value} {ts : List T} (h : CellAll w news vs ts) (hs : ∀ p ∈ news, p ∈ news') : CellAll w news' vs ts := by
  induction h with
  | nil => exact .nil
  | cons h _ ih => exact .cons (h.mono hs) ih
theorem CellAll.snoc {w : World} {news : Led} {vs : List Value} {ts : List T} {v : Value} {t : T} (h : CellAll w news vs ts) (hv : CellIn w news v t) : CellAll w news (vs ++ [v]) (ts ++ [t]) := by
  induction h with
  | nil => exact .cons hv .nil
  | cons h _ ih => exact .cons h ih
theorem box_in {w : World} {fo fod lp : Addr} {new : Led} {k1 k2 k3 k4 k5 k6 k7 t1 t2 t3 t4 t5 : Tok} {n : Nat} {row : Bool} {wd hg x y : Int} {vs : List Value} {ts : List T} {t : T} (hb : T.box row wd hg x y ts = some t) (hva : CellAll w new vs ts) :
    CellIn w ((fo, instObj 78 fod) :: (fod, cellD w k1 k2 k3 k4 k5 k6 k7 (.str (kindS row) t1) (.int wd t2) (.int hg t3) (.int x t4) (.int y t5) (.ref lp) .none) :: (lp, W.listOf vs.toArray n) :: new) (.ref fo) t := by
  have up : ∀ p ∈ new, p ∈ (fo, instObj 78 fod) :: (fod, cellD w k1 k2 k3 k4 k5 k6 k7 (.str (kindS row) t1) (.int wd t2) (.int hg t3) (.int x t4) (.int y t5) (.ref lp) .none) :: (lp, W.listOf vs.toArray n) :: new := fun p hp => .tail _ (.tail _ (.tail _ hp))
  cases hva with
  | nil => cases hb
  | cons h1 r =>
    cases r with
    | nil => cases hb
    | cons h2 r =>
      cases r with
      | nil =>
        cases hb
        exact .two (.head _) (.tail _ (.head _)) (.tail _ (.tail _ (.head _))) (h1.mono up) (h2.mono up)
      | cons h3 r =>
        cases r with
        | nil =>
          cases hb
          exact .three (.head _) (.tail _ (.head _)) (.tail _ (.tail _ (.head _))) (h1.mono up) (h2.mono up) (h3.mono up)
        | cons _ _ => cases hb
theorem isRd_eq {w : World} {D : Obj} {o : List UInt8} {p a b : Int} (e : a = b) (h : IsRd w D o p a) : IsRd w D o p b := e ▸ h
theorem pp_assoc (X : Res (List T)) (t : T) (ts : List T) (F : List T → Nat → Res T) : X.bind (fun r q => F ((ts ++ [t]) ++ r) q) = (X.bind fun r q => .ok (t :: r) q).bind fun r q => F (ts ++ r) q := by
  cases X <;> simp [Res.bind]
def fin (row : Bool) (a b c d : Int) (ts : List T) (p : Nat) : Res T := match T.box row a b c d ts with | some t => .ok t p | none => .out
structure LS where
  io : Bool
  vs : List Value
  n : Nat
  ts : List T
  p : Nat
  D : Obj
  new : Led
  g : Nat
section
variable {w : World} {mean : ExcName → Option Value} {mg mb : Str → Option Value}
theorem c_cell (f : Nat) : ∀ (rd rdd : Addr) (D : Obj) (o : List UInt8) (p : Nat) (d : Int) (hD : IsRd w D o p d) (rest : Led) (ho : o.length ≤ 1000)
   (hr : ∀ q ∈ rest, q.1 ≠ rdd) (hrd : rd ≠ rdd) (hd : d + f < 45) (hd0 : 0 ≤ d) (hout : pcell o f p ≠ .out),
   CTR w mean mg mb 172 [.ref rd] (20 + 20 * f) ((rd, instObj 175 rdd) :: (rdd, D) :: rest)
     (fun r n' => ∃ t q D' new, pcell o f p = .ok t q ∧ IsRd w D' o (q : Nat) d ∧ n' = (rd, instObj 175 rdd) :: (rdd, D') :: (new ++ rest) ∧ CellIn w new r t ∧ Above new ((rd, instObj 175 rdd) :: (rdd, D) :: rest))
     (fun n => ∃ k : Nat, pcell o f p = .bad k ∧ n = k) rest := by
  induction f with
  | zero => exact fun _ _ _ _ _ _ _ _ _ _ _ _ _ h => absurd rfl h
  | succ f ih =>
  intro rd rdd D o p d hD rest ho hr hrd hd hd0 hout
  revert D
  refine isRd_all ?_
  intro k1 k2 k3 t1 t2 t3
  intro dp un gd cn cs a0 ccd cl outer A₀ base h₀ L m s Q E B F X N T hk hdp hun hQ hE
  refine wpAny_call ?_
  k_dflt ktr_enter
  rename Fr _ _ _ _ => lF9
  refine fold_m lF9 ?_
  clear lF9
  intro m9 lF9
  generalize hR : pcell o (f + 1) p = R at *
  rw [pcell, phead] at hR
  k_steps
  have z := bind_in (bind_in (by rw [hR]; exact hout))
  unfold Stop
  (try (refine fold_Q ?_; intro qk9 ek9)); k_dflt (refine CTR.use (c_number _ _ _ o p d isRd_mk _ ho hr hrd z) (by k_asm) (by k_asm) (by k_asm) (by k_asm) (by k_asm) (by first | assumption | exact rfl) (by first | exact room_of hdp (by first | exact Nat.le_of_ble_eq_true rfl | exact Nat.le_add_right_of_le (Nat.le_of_ble_eq_true rfl) | omega) | (simp only [depth_under_make, depth_under_kw, depth_in1, depth_deeper, depth_caller, ktrTop]; omega) | ktr_room) (by first | exact units_of hun (by first | exact Nat.le_of_ble_eq_true rfl | exact Nat.le_add_right_of_le (Nat.le_of_ble_eq_true rfl) | omega) | (simp only [units_in1, units_deeper, Around.mark_units, units_caller, ktrTop]; omega) | ((try simp only [units_in1, units_deeper, Around.mark_units, units_caller] at *); (try dsimp only [ktrTop] at *); omega)) ?_ ?_)
  rotate_left
  · intro e9 dd9 gg9 tk9 n9 u9 nr9 h9 k9 hb F9 R9 m9 s9 U9
    k_steps
    exact hE _ _ _ _ _ _ _ _ _ (by first | exact bad_up hR hb | exact bad_up2 hR hb | exact bad_up3 hR hb) (by assumption) (by assumption) m9 (fun q hq => s9 q (by first | exact hq | grind)) (by assumption)
  refine use3 ?_
  intro h' tk' F' P9
  refine num_out ?_
  intro n0 p u0 k1 k2 k3 t1 t2 t3 hp N'
  (try clear P9)
  k_sweep
  rw [bind_ok hp] at hR
  (try dsimp only at hR)
  k_steps
  rename Fr _ _ _ _ => lF'
  rename News _ _ _ _ => lN'
  with_unfolding_all refine iter_tupTurns (by rfl) lF' (pk_4_0123 lN') (.head _) (by rfl) (by rfl) ?_
  clear lF' lN'
  intro i' l1
  k_lt l1
  k_steps
  unfold Stop
  (try (refine fold_Q ?_; intro qk9 ek9)); k_dflt (refine CTR.use (c_psign rd rdd _ _ o p d isRd_mk [120] _ (.cons .nil) _ _ ho ?hr ?htr hrd) (by k_asm) (by k_asm) (by k_asm) ((pk_6_450123 (by k_asm))) (by k_asm) (by first | assumption | exact rfl) (by first | exact room_of hdp (by first | exact Nat.le_of_ble_eq_true rfl | exact Nat.le_add_right_of_le (Nat.le_of_ble_eq_true rfl) | omega) | (simp only [depth_under_make, depth_under_kw, depth_in1, depth_deeper, depth_caller, ktrTop]; omega) | ktr_room) (by first | exact units_of hun (by first | exact Nat.le_of_ble_eq_true rfl | exact Nat.le_add_right_of_le (Nat.le_of_ble_eq_true rfl) | omega) | (simp only [units_in1, units_deeper, Around.mark_units, units_caller, ktrTop]; omega) | ((try simp only [units_in1, units_deeper, Around.mark_units, units_caller] at *); (try dsimp only [ktrTop] at *); omega)) ?_ ?_)
  case hr => k_all
  case htr => k_ne
  rotate_left
  · intro e9 dd9 gg9 tk9 n9 u9 nr9 h9 k9 hb F9 R9 m9 s9 U9
    k_steps
    exact hE _ _ _ _ _ _ _ _ _ (by first | exact bad_up hR hb | exact bad_up2 hR hb | exact bad_up3 hR hb) (by assumption) (by assumption) m9 (fun q hq => s9 q (by first | exact hq | grind)) (by assumption)
  refine use3 ?_
  intro h' tk' F' P9
  refine sign_out ?_
  intro _ _ p k1 k2 k3 t1 t2 t3 hp N'
  (try clear P9)
  k_sweep
  rw [bind_ok hp] at hR
  (try dsimp only at hR)
  k_steps
  have z := bind_in (bind_in (by rw [hR]; exact hout))
  unfold Stop
  (try (refine fold_Q ?_; intro qk9 ek9)); k_dflt (refine CTR.use (c_number _ _ _ o p d isRd_mk _ ho ?hr hrd z) (by k_asm) (by k_asm) (by k_asm) (by k_asm) (by k_asm) (by first | assumption | exact rfl) (by first | exact room_of hdp (by first | exact Nat.le_of_ble_eq_true rfl | exact Nat.le_add_right_of_le (Nat.le_of_ble_eq_true rfl) | omega) | (simp only [depth_under_make, depth_under_kw, depth_in1, depth_deeper, depth_caller, ktrTop]; omega) | ktr_room) (by first | exact units_of hun (by first | exact Nat.le_of_ble_eq_true rfl | exact Nat.le_add_right_of_le (Nat.le_of_ble_eq_true rfl) | omega) | (simp only [units_in1, units_deeper, Around.mark_units, units_caller, ktrTop]; omega) | ((try simp only [units_in1, units_deeper, Around.mark_units, units_caller] at *); (try dsimp only [ktrTop] at *); omega)) ?_ ?_)
  case hr => k_all
  rotate_left
  · intro e9 dd9 gg9 tk9 n9 u9 nr9 h9 k9 hb F9 R9 m9 s9 U9
    k_steps
    exact hE _ _ _ _ _ _ _ _ _ (by first | exact bad_up hR hb | exact bad_up2 hR hb | exact bad_up3 hR hb) (by assumption) (by assumption) m9 (fun q hq => s9 q (by first | exact hq | grind)) (by assumption)
  refine use3 ?_
  intro h' tk' F' P9
  refine num_out ?_
  intro n1 p u1 k1 k2 k3 t1 t2 t3 hp N'
  (try clear P9)
  k_sweep
  rw [bind_ok hp] at hR
  (try dsimp only at hR)
  k_steps
  refine endW2 (by assumption) (by assumption) ?oa ?ob ?of ⟨⟨.tail _ (.tail _ (.head _)), trivial⟩, ?_⟩
  case oa => k_ne
  case ob => k_ne
  case of => k_all
  k_steps
  unfold Stop
  (try (refine fold_Q ?_; intro qk9 ek9)); k_dflt (refine CTR.use (c_psign rd rdd _ _ o p d isRd_mk [44] _ (.cons .nil) _ _ ho ?hr ?htr hrd) (by k_asm) (by k_asm) (by k_asm) ((pk_6_230145 (by k_asm))) (by k_asm) (by first | assumption | exact rfl) (by first | exact room_of hdp (by first | exact Nat.le_of_ble_eq_true rfl | exact Nat.le_add_right_of_le (Nat.le_of_ble_eq_true rfl) | omega) | (simp only [depth_under_make, depth_under_kw, depth_in1, depth_deeper, depth_caller, ktrTop]; omega) | ktr_room) (by first | exact units_of hun (by first | exact Nat.le_of_ble_eq_true rfl | exact Nat.le_add_right_of_le (Nat.le_of_ble_eq_true rfl) | omega) | (simp only [units_in1, units_deeper, Around.mark_units, units_caller, ktrTop]; omega) | ((try simp only [units_in1, units_deeper, Around.mark_units, units_caller] at *); (try dsimp only [ktrTop] at *); omega)) ?_ ?_)
  case hr => k_all
  case htr => k_ne
  rotate_left
  · intro e9 dd9 gg9 tk9 n9 u9 nr9 h9 k9 hb F9 R9 m9 s9 U9
    k_steps
    exact hE _ _ _ _ _ _ _ _ _ (by first | exact bad_up hR hb | exact bad_up2 hR hb | exact bad_up3 hR hb) (by assumption) (by assumption) m9 (fun q hq => s9 q (by first | exact hq | grind)) (by assumption)
  refine use3 ?_
  intro h' tk' F' P9
  refine sign_out ?_
  intro _ _ p k1 k2 k3 t1 t2 t3 hp N'
  (try clear P9)
  k_sweep
  rw [bind_ok hp] at hR
  (try dsimp only at hR)
  k_steps
  have z := bind_in (bind_in (by rw [hR]; exact hout))
  unfold Stop
  (try (refine fold_Q ?_; intro qk9 ek9)); k_dflt (refine CTR.use (c_number _ _ _ o p d isRd_mk _ ho ?hr hrd z) (by k_asm) (by k_asm) (by k_asm) (by k_asm) (by k_asm) (by first | assumption | exact rfl) (by first | exact room_of hdp (by first | exact Nat.le_of_ble_eq_true rfl | exact Nat.le_add_right_of_le (Nat.le_of_ble_eq_true rfl) | omega) | (simp only [depth_under_make, depth_under_kw, depth_in1, depth_deeper, depth_caller, ktrTop]; omega) | ktr_room) (by first | exact units_of hun (by first | exact Nat.le_of_ble_eq_true rfl | exact Nat.le_add_right_of_le (Nat.le_of_ble_eq_true rfl) | omega) | (simp only [units_in1, units_deeper, Around.mark_units, units_caller, ktrTop]; omega) | ((try simp only [units_in1, units_deeper, Around.mark_units, units_caller] at *); (try dsimp only [ktrTop] at *); omega)) ?_ ?_)
  case hr => k_all
  rotate_left
  · intro e9 dd9 gg9 tk9 n9 u9 nr9 h9 k9 hb F9 R9 m9 s9 U9
    k_steps
    exact hE _ _ _ _ _ _ _ _ _ (by first | exact bad_up hR hb | exact bad_up2 hR hb | exact bad_up3 hR hb) (by assumption) (by assumption) m9 (fun q hq => s9 q (by first | exact hq | grind)) (by assumption)
  refine use3 ?_
  intro h' tk' F' P9
  refine num_out ?_
  intro n2 p u2 k1 k2 k3 t1 t2 t3 hp N'
  (try clear P9)
  k_sweep
  rw [bind_ok hp] at hR
  (try dsimp only at hR)
  k_steps
  refine endW2 (by assumption) (by assumption) ?oa ?ob ?of ⟨⟨.tail _ (.tail _ (.head _)), trivial⟩, ?_⟩
  case oa => k_ne
  case ob => k_ne
  case of => k_all
  k_steps
  unfold Stop
  (try (refine fold_Q ?_; intro qk9 ek9)); k_dflt (refine CTR.use (c_psign rd rdd _ _ o p d isRd_mk [44] _ (.cons .nil) _ _ ho ?hr ?htr hrd) (by k_asm) (by k_asm) (by k_asm) ((pk_6_230145 (by k_asm))) (by k_asm) (by first | assumption | exact rfl) (by first | exact room_of hdp (by first | exact Nat.le_of_ble_eq_true rfl | exact Nat.le_add_right_of_le (Nat.le_of_ble_eq_true rfl) | omega) | (simp only [depth_under_make, depth_under_kw, depth_in1, depth_deeper, depth_caller, ktrTop]; omega) | ktr_room) (by first | exact units_of hun (by first | exact Nat.le_of_ble_eq_true rfl | exact Nat.le_add_right_of_le (Nat.le_of_ble_eq_true rfl) | omega) | (simp only [units_in1, units_deeper, Around.mark_units, units_caller, ktrTop]; omega) | ((try simp only [units_in1, units_deeper, Around.mark_units, units_caller] at *); (try dsimp only [ktrTop] at *); omega)) ?_ ?_)
  case hr => k_all
  case htr => k_ne
  rotate_left
  · intro e9 dd9 gg9 tk9 n9 u9 nr9 h9 k9 hb F9 R9 m9 s9 U9
    k_steps
    exact hE _ _ _ _ _ _ _ _ _ (by first | exact bad_up hR hb | exact bad_up2 hR hb | exact bad_up3 hR hb) (by assumption) (by assumption) m9 (fun q hq => s9 q (by first | exact hq | grind)) (by assumption)
  refine use3 ?_
  intro h' tk' F' P9
  refine sign_out ?_
  intro _ _ p k1 k2 k3 t1 t2 t3 hp N'
  (try clear P9)
  k_sweep
  rw [bind_ok hp] at hR
  (try dsimp only at hR)
  k_steps
  have z := bind_in (bind_in (by rw [hR]; exact hout))
  unfold Stop
  (try (refine fold_Q ?_; intro qk9 ek9)); k_dflt (refine CTR.use (c_number _ _ _ o p d isRd_mk _ ho ?hr hrd z) (by k_asm) (by k_asm) (by k_asm) (by k_asm) (by k_asm) (by first | assumption | exact rfl) (by first | exact room_of hdp (by first | exact Nat.le_of_ble_eq_true rfl | exact Nat.le_add_right_of_le (Nat.le_of_ble_eq_true rfl) | omega) | (simp only [depth_under_make, depth_under_kw, depth_in1, depth_deeper, depth_caller, ktrTop]; omega) | ktr_room) (by first | exact units_of hun (by first | exact Nat.le_of_ble_eq_true rfl | exact Nat.le_add_right_of_le (Nat.le_of_ble_eq_true rfl) | omega) | (simp only [units_in1, units_deeper, Around.mark_units, units_caller, ktrTop]; omega) | ((try simp only [units_in1, units_deeper, Around.mark_units, units_caller] at *); (try dsimp only [ktrTop] at *); omega)) ?_ ?_)
  case hr => k_all
  rotate_left
  · intro e9 dd9 gg9 tk9 n9 u9 nr9 h9 k9 hb F9 R9 m9 s9 U9
    k_steps
    exact hE _ _ _ _ _ _ _ _ _ (by first | exact bad_up hR hb | exact bad_up2 hR hb | exact bad_up3 hR hb) (by assumption) (by assumption) m9 (fun q hq => s9 q (by first | exact hq | grind)) (by assumption)
  refine use3 ?_
  intro h' tk' F' P9
  refine num_out ?_
  intro n3 p u3 k1 k2 k3 t1 t2 t3 hp N'
  (try clear P9)
  k_sweep
  rw [bind_ok hp] at hR
  (try dsimp only at hR)
  k_steps
  refine endW2 (by assumption) (by assumption) ?oa ?ob ?of ⟨⟨.tail _ (.tail _ (.head _)), trivial⟩, ?_⟩
  case oa => k_ne
  case ob => k_ne
  case of => k_all
  k_steps
  unfold Stop
  (try (refine fold_Q ?_; intro qk9 ek9)); k_dflt (refine CTR.use (c_psign rd rdd _ _ o p d isRd_mk [44, 123, 91] _ (.cons (.cons (.cons .nil))) _ _ ho ?hr ?htr hrd) (by k_asm) (by k_asm) (by k_asm) ((list4 (pk_5_1204 (by k_asm)))) (by k_asm) (by first | assumption | exact rfl) (by first | exact room_of hdp (by first | exact Nat.le_of_ble_eq_true rfl | exact Nat.le_add_right_of_le (Nat.le_of_ble_eq_true rfl) | omega) | (simp only [depth_under_make, depth_under_kw, depth_in1, depth_deeper, depth_caller, ktrTop]; omega) | ktr_room) (by first | exact units_of hun (by first | exact Nat.le_of_ble_eq_true rfl | exact Nat.le_add_right_of_le (Nat.le_of_ble_eq_true rfl) | omega) | (simp only [units_in1, units_deeper, Around.mark_units, units_caller, ktrTop]; omega) | ((try simp only [units_in1, units_deeper, Around.mark_units, units_caller] at *); (try dsimp only [ktrTop] at *); omega)) ?_ ?_)
  case hr => k_all
  case htr => k_ne
  rotate_left
  · intro e9 dd9 gg9 tk9 n9 u9 nr9 h9 k9 hb F9 R9 m9 s9 U9
    k_steps
    exact hE _ _ _ _ _ _ _ _ _ (by first | exact bad_up hR hb | exact bad_up2 hR hb | exact bad_up3 hR hb) (by assumption) (by assumption) m9 (fun q hq => s9 q (by first | exact hq | grind)) (by assumption)
  refine use3 ?_
  intro h' tk' F' P9
  refine sign_out ?_
  intro c u4 p k1 k2 k3 t1 t2 t3 hp N'
  (try clear P9)
  k_sweep
  rw [bind_ok hp] at hR
  (try dsimp only at hR)
  obtain ⟨hc, -⟩ := psign_mem hp
  rw [bind_ok rfl] at hR
  dsimp only at hR
  k_steps
  rename Addr => lp
  unfold Stop
  (try (refine fold_Q ?_; intro qk9 ek9)); k_dflt (refine CT.use (c_mkcell _ _ _ (.inl rfl) _ _ _ _ _ _ _ _ _ _) (by k_asm) (by k_asm) (by k_asm) (by k_asm) (by k_asm) (by first | assumption | exact rfl) (by first | exact room_of hdp (by first | exact Nat.le_of_ble_eq_true rfl | exact Nat.le_add_right_of_le (Nat.le_of_ble_eq_true rfl) | omega) | (simp only [depth_under_make, depth_under_kw, depth_in1, depth_deeper, depth_caller, ktrTop]; omega) | ktr_room) (by first | exact units_of hun (by first | exact Nat.le_of_ble_eq_true rfl | exact Nat.le_add_right_of_le (Nat.le_of_ble_eq_true rfl) | omega) | (simp only [units_in1, units_deeper, Around.mark_units, units_caller, ktrTop]; omega) | ((try simp only [units_in1, units_deeper, Around.mark_units, units_caller] at *); (try dsimp only [ktrTop] at *); omega)) ?_)
  refine use3 ?_
  intro h' tk' F' P9
  refine MkCell.out ?_
  intro fo fod k1 k2 k3 k4 k5 k6 k7 l1 l2 N'
  (try clear P9)
  (try k_lt l1)
  (try k_lt2 l2)
  k_sweep
  by_cases h44 : c = 44
  · subst h44
    rw [if_pos rfl] at hR
    k_steps
    have z := bind_in (by rw [hR]; exact hout)
    unfold Stop
    (try (refine fold_Q ?_; intro qk9 ek9)); k_dflt (refine CTR.use (c_number _ _ _ o p d isRd_mk _ ho ?hr hrd z) (by k_asm) (by k_asm) (by k_asm) ((pk_6_340125 (by k_asm))) (by k_asm) (by first | assumption | exact rfl) (by first | exact room_of hdp (by first | exact Nat.le_of_ble_eq_true rfl | exact Nat.le_add_right_of_le (Nat.le_of_ble_eq_true rfl) | omega) | (simp only [depth_under_make, depth_under_kw, depth_in1, depth_deeper, depth_caller, ktrTop]; omega) | ktr_room) (by first | exact units_of hun (by first | exact Nat.le_of_ble_eq_true rfl | exact Nat.le_add_right_of_le (Nat.le_of_ble_eq_true rfl) | omega) | (simp only [units_in1, units_deeper, Around.mark_units, units_caller, ktrTop]; omega) | ((try simp only [units_in1, units_deeper, Around.mark_units, units_caller] at *); (try dsimp only [ktrTop] at *); omega)) ?_ ?_)
    case hr => k_all
    rotate_left
    · intro e9 dd9 gg9 tk9 n9 u9 nr9 h9 k9 hb F9 R9 m9 s9 U9
      k_steps
      exact hE _ _ _ _ _ _ _ _ _ (by first | exact bad_up hR hb | exact bad_up2 hR hb | exact bad_up3 hR hb) (by assumption) (by assumption) m9 (fun q hq => s9 q (by first | exact hq | grind)) (by assumption)
    refine use3 ?_
    intro h' tk' F' P9
    refine num_out ?_
    intro n4 p u5 k1 k2 k3 t1 t2 t3 hp N'
    (try clear P9)
    k_sweep
    rw [bind_ok hp] at hR
    (try dsimp only at hR)
    k_steps
    refine hQ _ (_ :: _ :: ([_, _, _] ++ rest)) _ _ (by k_asm) (pk_6_01234 (by k_asm)) (cell_mk (new := [_, _, _]) hR.symm isRd_mk (.pane (.head _) (.tail _ (.head _)) (.tail _ (.tail _ (.head _)))) ?_)
    exact above3 (by tbn_lt) (by tbn_below) (by tbn_below)
  rw [if_neg h44] at hR
  have hc2 : c = 123 ∨ c = 91 := by simpa [h44] using hc
  rcases hc2 with rfl | rfl
  · k_steps
    unfold Stop
    have hR : (pparts o (pcell o f) 125 f p).bind (fin true n0 n1 n2 n3) = R := by rw [← hR]; rfl
    rename Fr _ _ _ _ => lF'
    rename News _ _ _ _ => lN'
    obtain ⟨tkk, v0, v1, v2, v3, lN'⟩ := nameK k1 k2 k3 k4 k5 k6 k7 (kindS true) n0 n1 n2 n3 lN'
    have hlt : AllLt lp rest := by tbn_find
    have hlo : rd < lp ∧ rdd < lp ∧ lp < fod ∧ fod < fo := by
      refine ⟨?_, ?_, ?_, ?_⟩ <;> (refine ltN ?_; omega)
    refine' ksw_while (σ := LS) (fun c => (rd, instObj 175 rdd) :: (rdd, c.D) :: (lp, W.listOf c.vs.toArray c.n) :: (fo, instObj 78 fod) :: (fod, cellD w k1 k2 k3 k4 k5 k6 k7 (.str (kindS true) tkk) (.int n0 v0) (.int n1 v1) (.int n2 v2) (.int n3 v3) (.ref lp) .none) :: (c.new ++ rest))
      (fun c => [(Str.ofString "is_open", .bool c.io)]) (fun c => IsRd w c.D o c.p (d + 1)) []
      (fun c => CellAll w c.new c.vs c.ts ∧ (∀ q ∈ c.new, @LT.lt Nat _ fo q.1) ∧ c.vs.length + c.g ≤ f ∧ (if c.io = true then (pparts o (pcell o f) 125 c.g c.p).bind (fun ts q => fin true n0 n1 n2 n3 (c.ts ++ ts) q) = R else fin true n0 n1 n2 n3 c.ts c.p = R))
      (fun c => c.g) ⟨true, [], 0, [], p, _, [], f⟩ lF' (pk_7_45312 lN') ?kftrue ?kktrue ?kptrue ?kttrue
    case kftrue => exact isRd_mk
    case kktrue => exact List.forall_mem_cons.mpr ⟨rfl, List.forall_mem_nil _⟩
    case kptrue => exact ⟨.nil, List.forall_mem_nil _, by simp, by rw [if_pos rfl]; exact hR⟩
    clear lF' lN' hR
    rintro ⟨io, vs, n, ts, q, D, new, g⟩ u h tk hD ⟨hva, hnew, hlen, hR⟩ kF kN
    dsimp only at hD hva hnew hlen hR kF kN
    obtain ⟨k1, k2, k3, t1, t2, t3, rfl⟩ := hD
    have offd : ∀ q ∈ new ++ rest, q.1 ≠ rdd := fun q hq => (List.mem_append.mp hq).elim (fun h => Nat.ne_of_gt (Nat.lt_trans (Nat.lt_trans hlo.2.1 hlo.2.2.1) (Nat.lt_trans hlo.2.2.2 (hnew q h)))) (hr q)
    cases io with
    | false =>
      rw [if_neg Bool.false_ne_true] at hR
      k_steps
      obtain ⟨t, ht⟩ : ∃ t, Mine.T.box true n0 n1 n2 n3 ts = some t := by
        cases ht : Mine.T.box true n0 n1 n2 n3 ts with
        | some t => exact ⟨t, rfl⟩
        | none => exact absurd (hR.symm.trans (by unfold fin; rw [ht])) hout
      have hRt : R = .ok t q := hR.symm.trans (by unfold fin; rw [ht])
      refine hQ _ (_ :: _ :: (((fo, _) :: (fod, _) :: (lp, _) :: new) ++ rest)) _ _ (by k_asm) (pk_5_01342 (by k_asm)) (cell_mk hRt (isRd_eq (by omega) isRd_mk) (box_in ht hva) ?_)
      exact above_loop (by tbn_find) hlo hnew
    | true =>
      rw [if_pos rfl] at hR
      cases g with
      | zero => exact absurd hR.symm hout
      | succ g =>
        rw [pparts] at hR
        k_steps
        have z := bind_in (bind_in (by rw [hR]; exact hout))
        unfold Stop
        (try (refine fold_Q ?_; intro qk9 ek9)); k_dflt (refine CTR.use (ih rd rdd _ o q (d + 1) isRd_mk _ ho ?hr hrd (by omega) (by omega) z) (by k_asm) (by k_asm) (by k_asm) (by k_asm) (by k_asm) (by first | assumption | exact rfl) (by first | exact room_of hdp (by first | exact Nat.le_of_ble_eq_true rfl | exact Nat.le_add_right_of_le (Nat.le_of_ble_eq_true rfl) | omega) | (simp only [depth_under_make, depth_under_kw, depth_in1, depth_deeper, depth_caller, ktrTop]; omega) | ktr_room) (by first | exact units_of hun (by first | exact Nat.le_of_ble_eq_true rfl | exact Nat.le_add_right_of_le (Nat.le_of_ble_eq_true rfl) | omega) | (simp only [units_in1, units_deeper, Around.mark_units, units_caller, ktrTop]; omega) | ((try simp only [units_in1, units_deeper, Around.mark_units, units_caller] at *); (try dsimp only [ktrTop] at *); omega)) ?_ ?_)
        case hr => k_all
        rotate_left
        · intro e9 dd9 gg9 tk9 n9 u9 nr9 h9 k9 hb F9 R9 m9 s9 U9
          k_steps
          exact hE _ _ _ _ _ _ _ _ _ (by first | exact bad_up hR hb | exact bad_up2 hR hb | exact bad_up3 hR hb) (by assumption) (by assumption) m9 (fun q hq => s9 q (.tail _ (.tail _ (.tail _ (List.mem_append.mpr (.inr hq)))))) (by assumption)
        refine use3 ?_
        intro h' tk' F' P9
        refine cell_out ?_
        intro t q new1 k1 k2 k3 t1 t2 t3 a9 hp hv hab N'
        (try clear P9)
        rw [bind_ok hp] at hR
        (try dsimp only at hR)
        replace N' := reord N'
        have hnew1 : ∀ q ∈ new1 ++ new, @LT.lt Nat _ fo q.1 := fun q hq => (List.mem_append.mp hq).elim (fun h => hab q h (fo, instObj 78 fod) (.tail _ (.tail _ (.tail _ (.head _))))) (hnew q)
        have offd1 : ∀ q ∈ (new1 ++ new) ++ rest, q.1 ≠ rdd := fun q hq => (List.mem_append.mp hq).elim (fun h => Nat.ne_of_gt (Nat.lt_trans (Nat.lt_trans hlo.2.1 hlo.2.2.1) (Nat.lt_trans hlo.2.2.2 (hnew1 q h)))) (hr q)
        have offl1 : ∀ q ∈ (new1 ++ new) ++ rest, q.1 ≠ lp := fun q hq => (List.mem_append.mp hq).elim (fun h => Nat.ne_of_gt (Nat.lt_trans hlo.2.2.1 (Nat.lt_trans hlo.2.2.2 (hnew1 q h)))) (fun h => Nat.ne_of_lt (tb_ltOf hlt q h))
        have hva1 := (hva.mono fun p hp => List.mem_append.mpr (.inr hp)).snoc (hv.mono fun p hp => List.mem_append.mpr (.inl hp))
        k_steps
        unfold Stop
        (try (refine fold_Q ?_; intro qk9 ek9)); k_dflt (refine CTR.use (c_psign rd rdd _ _ o q (d + 1) isRd_mk [44, 125] _ (.cons (.cons .nil)) _ _ ho ?hr ?htr hrd) (by k_asm) (by k_asm) (by k_asm) ((pk_6_230145 (by k_asm))) (by k_asm) (by first | assumption | exact rfl) (by first | exact room_of hdp (by first | exact Nat.le_of_ble_eq_true rfl | exact Nat.le_add_right_of_le (Nat.le_of_ble_eq_true rfl) | omega) | (simp only [depth_under_make, depth_under_kw, depth_in1, depth_deeper, depth_caller, ktrTop]; omega) | ktr_room) (by first | exact units_of hun (by first | exact Nat.le_of_ble_eq_true rfl | exact Nat.le_add_right_of_le (Nat.le_of_ble_eq_true rfl) | omega) | (simp only [units_in1, units_deeper, Around.mark_units, units_caller, ktrTop]; omega) | ((try simp only [units_in1, units_deeper, Around.mark_units, units_caller] at *); (try dsimp only [ktrTop] at *); omega)) ?_ ?_)
        case hr => k_all
        case htr => k_ne
        rotate_left
        · intro e9 dd9 gg9 tk9 n9 u9 nr9 h9 k9 hb F9 R9 m9 s9 U9
          k_steps
          exact hE _ _ _ _ _ _ _ _ _ (by first | exact bad_up hR hb | exact bad_up2 hR hb | exact bad_up3 hR hb) (by assumption) (by assumption) m9 (fun q hq => s9 q (.tail _ (.tail _ (.tail _ (List.mem_append.mpr (.inr hq)))))) (by assumption)
        refine use3 ?_
        intro h' tk' F' P9
        refine sign_out ?_
        intro c u4 q k1 k2 k3 t1 t2 t3 hp N'
        (try clear P9)
        rw [bind_ok hp] at hR
        (try dsimp only at hR)
        obtain ⟨hc, -⟩ := psign_mem hp
        have hc2 : c = 44 ∨ c = 125 := by simpa using hc
        have hlen2 : (vs ++ [Value.ref a9]).length + g ≤ f := by rw [List.length_append]; simp only [List.length_cons, List.length_nil]; omega
        rcases hc2 with rfl | rfl
        · rw [if_pos rfl] at hR
          k_steps
          rename News _ _ _ _ => nE'
          (try simp only [List.push_toArray] at nE')
          refine ksw_end (⟨true, vs ++ [.ref a9], n + 1, ts ++ [t], q, rdD w k1 k2 k3 o q (d + 1) t1 t2 t3, new1 ++ new, g⟩ : LS) (by assumption) nE' ?ztrue1true isRd_mk ?ztrue2true ?ztrue3true ⟨hva1, hnew1, hlen2, ?ztrue4true⟩ (Nat.lt_succ_self _)
          case ztrue1true => exact fun _ h => h
          case ztrue2true => exact List.forall_mem_cons.mpr ⟨rfl, List.forall_mem_nil _⟩
          case ztrue3true =>
            intro z h2 h3
            have h9 : z ≠ Str.ofString "is_open" := h2 (Str.ofString "is_open", _) (.head _)
            exact (if_neg h9).trans ((if_neg h9).trans rfl)
          case ztrue4true =>
            dsimp only
            exact (if_pos rfl).mpr ((pp_assoc _ _ _ (fin true n0 n1 n2 n3)).trans hR)
        · rw [if_neg (by decide)] at hR
          k_steps
          rename News _ _ _ _ => nE'
          (try simp only [List.push_toArray] at nE')
          refine ksw_end (⟨false, vs ++ [.ref a9], n + 1, ts ++ [t], q, rdD w k1 k2 k3 o q (d + 1) t1 t2 t3, new1 ++ new, g⟩ : LS) (by assumption) nE' ?zfalse1true isRd_mk ?zfalse2true ?zfalse3true ⟨hva1, hnew1, hlen2, ?zfalse4true⟩ (Nat.lt_succ_self _)
          case zfalse1true => exact fun _ h => h
          case zfalse2true => exact List.forall_mem_cons.mpr ⟨rfl, List.forall_mem_nil _⟩
          case zfalse3true =>
            intro z h2 h3
            have h9 : z ≠ Str.ofString "is_open" := h2 (Str.ofString "is_open", _) (.head _)
            exact (if_neg h9).trans ((if_neg h9).trans rfl)
          case zfalse4true =>
            dsimp only
            exact (if_neg Bool.false_ne_true).mpr hR
  · k_steps
    unfold Stop
    have hR : (pparts o (pcell o f) 93 f p).bind (fin false n0 n1 n2 n3) = R := by rw [← hR]; rfl
    rename Fr _ _ _ _ => lF'
    rename News _ _ _ _ => lN'
    obtain ⟨tkk, v0, v1, v2, v3, lN'⟩ := nameK k1 k2 k3 k4 k5 k6 k7 (kindS false) n0 n1 n2 n3 lN'
    have hlt : AllLt lp rest := by tbn_find
    have hlo : rd < lp ∧ rdd < lp ∧ lp < fod ∧ fod < fo := by
      refine ⟨?_, ?_, ?_, ?_⟩ <;> (refine ltN ?_; omega)
    refine' ksw_while (σ := LS) (fun c => (rd, instObj 175 rdd) :: (rdd, c.D) :: (lp, W.listOf c.vs.toArray c.n) :: (fo, instObj 78 fod) :: (fod, cellD w k1 k2 k3 k4 k5 k6 k7 (.str (kindS false) tkk) (.int n0 v0) (.int n1 v1) (.int n2 v2) (.int n3 v3) (.ref lp) .none) :: (c.new ++ rest))
      (fun c => [(Str.ofString "is_open", .bool c.io)]) (fun c => IsRd w c.D o c.p (d + 1)) []
      (fun c => CellAll w c.new c.vs c.ts ∧ (∀ q ∈ c.new, @LT.lt Nat _ fo q.1) ∧ c.vs.length + c.g ≤ f ∧ (if c.io = true then (pparts o (pcell o f) 93 c.g c.p).bind (fun ts q => fin false n0 n1 n2 n3 (c.ts ++ ts) q) = R else fin false n0 n1 n2 n3 c.ts c.p = R))
      (fun c => c.g) ⟨true, [], 0, [], p, _, [], f⟩ lF' (pk_7_45312 lN') ?kffalse ?kkfalse ?kpfalse ?ktfalse
    case kffalse => exact isRd_mk
    case kkfalse => exact List.forall_mem_cons.mpr ⟨rfl, List.forall_mem_nil _⟩
    case kpfalse => exact ⟨.nil, List.forall_mem_nil _, by simp, by rw [if_pos rfl]; exact hR⟩
    clear lF' lN' hR
    rintro ⟨io, vs, n, ts, q, D, new, g⟩ u h tk hD ⟨hva, hnew, hlen, hR⟩ kF kN
    dsimp only at hD hva hnew hlen hR kF kN
    obtain ⟨k1, k2, k3, t1, t2, t3, rfl⟩ := hD
    have offd : ∀ q ∈ new ++ rest, q.1 ≠ rdd := fun q hq => (List.mem_append.mp hq).elim (fun h => Nat.ne_of_gt (Nat.lt_trans (Nat.lt_trans hlo.2.1 hlo.2.2.1) (Nat.lt_trans hlo.2.2.2 (hnew q h)))) (hr q)
    cases io with
    | false =>
      rw [if_neg Bool.false_ne_true] at hR
      k_steps
      obtain ⟨t, ht⟩ : ∃ t, Mine.T.box false n0 n1 n2 n3 ts = some t := by
        cases ht : Mine.T.box false n0 n1 n2 n3 ts with
        | some t => exact ⟨t, rfl⟩
        | none => exact absurd (hR.symm.trans (by unfold fin; rw [ht])) hout
      have hRt : R = .ok t q := hR.symm.trans (by unfold fin; rw [ht])
      refine hQ _ (_ :: _ :: (((fo, _) :: (fod, _) :: (lp, _) :: new) ++ rest)) _ _ (by k_asm) (pk_5_01342 (by k_asm)) (cell_mk hRt (isRd_eq (by omega) isRd_mk) (box_in ht hva) ?_)
      exact above_loop (by tbn_find) hlo hnew
    | true =>
      rw [if_pos rfl] at hR
      cases g with
      | zero => exact absurd hR.symm hout
      | succ g =>
        rw [pparts] at hR
        k_steps
        have z := bind_in (bind_in (by rw [hR]; exact hout))
        unfold Stop
        (try (refine fold_Q ?_; intro qk9 ek9)); k_dflt (refine CTR.use (ih rd rdd _ o q (d + 1) isRd_mk _ ho ?hr hrd (by omega) (by omega) z) (by k_asm) (by k_asm) (by k_asm) (by k_asm) (by k_asm) (by first | assumption | exact rfl) (by first | exact room_of hdp (by first | exact Nat.le_of_ble_eq_true rfl | exact Nat.le_add_right_of_le (Nat.le_of_ble_eq_true rfl) | omega) | (simp only [depth_under_make, depth_under_kw, depth_in1, depth_deeper, depth_caller, ktrTop]; omega) | ktr_room) (by first | exact units_of hun (by first | exact Nat.le_of_ble_eq_true rfl | exact Nat.le_add_right_of_le (Nat.le_of_ble_eq_true rfl) | omega) | (simp only [units_in1, units_deeper, Around.mark_units, units_caller, ktrTop]; omega) | ((try simp only [units_in1, units_deeper, Around.mark_units, units_caller] at *); (try dsimp only [ktrTop] at *); omega)) ?_ ?_)
        case hr => k_all
        rotate_left
        · intro e9 dd9 gg9 tk9 n9 u9 nr9 h9 k9 hb F9 R9 m9 s9 U9
          k_steps
          exact hE _ _ _ _ _ _ _ _ _ (by first | exact bad_up hR hb | exact bad_up2 hR hb | exact bad_up3 hR hb) (by assumption) (by assumption) m9 (fun q hq => s9 q (.tail _ (.tail _ (.tail _ (List.mem_append.mpr (.inr hq)))))) (by assumption)
        refine use3 ?_
        intro h' tk' F' P9
        refine cell_out ?_
        intro t q new1 k1 k2 k3 t1 t2 t3 a9 hp hv hab N'
        (try clear P9)
        rw [bind_ok hp] at hR
        (try dsimp only at hR)
        replace N' := reord N'
        have hnew1 : ∀ q ∈ new1 ++ new, @LT.lt Nat _ fo q.1 := fun q hq => (List.mem_append.mp hq).elim (fun h => hab q h (fo, instObj 78 fod) (.tail _ (.tail _ (.tail _ (.head _))))) (hnew q)
        have offd1 : ∀ q ∈ (new1 ++ new) ++ rest, q.1 ≠ rdd := fun q hq => (List.mem_append.mp hq).elim (fun h => Nat.ne_of_gt (Nat.lt_trans (Nat.lt_trans hlo.2.1 hlo.2.2.1) (Nat.lt_trans hlo.2.2.2 (hnew1 q h)))) (hr q)
        have offl1 : ∀ q ∈ (new1 ++ new) ++ rest, q.1 ≠ lp := fun q hq => (List.mem_append.mp hq).elim (fun h => Nat.ne_of_gt (Nat.lt_trans hlo.2.2.1 (Nat.lt_trans hlo.2.2.2 (hnew1 q h)))) (fun h => Nat.ne_of_lt (tb_ltOf hlt q h))
        have hva1 := (hva.mono fun p hp => List.mem_append.mpr (.inr hp)).snoc (hv.mono fun p hp => List.mem_append.mpr (.inl hp))
        k_steps
        unfold Stop
        (try (refine fold_Q ?_; intro qk9 ek9)); k_dflt (refine CTR.use (c_psign rd rdd _ _ o q (d + 1) isRd_mk [44, 93] _ (.cons (.cons .nil)) _ _ ho ?hr ?htr hrd) (by k_asm) (by k_asm) (by k_asm) ((pk_6_230145 (by k_asm))) (by k_asm) (by first | assumption | exact rfl) (by first | exact room_of hdp (by first | exact Nat.le_of_ble_eq_true rfl | exact Nat.le_add_right_of_le (Nat.le_of_ble_eq_true rfl) | omega) | (simp only [depth_under_make, depth_under_kw, depth_in1, depth_deeper, depth_caller, ktrTop]; omega) | ktr_room) (by first | exact units_of hun (by first | exact Nat.le_of_ble_eq_true rfl | exact Nat.le_add_right_of_le (Nat.le_of_ble_eq_true rfl) | omega) | (simp only [units_in1, units_deeper, Around.mark_units, units_caller, ktrTop]; omega) | ((try simp only [units_in1, units_deeper, Around.mark_units, units_caller] at *); (try dsimp only [ktrTop] at *); omega)) ?_ ?_)
        case hr => k_all
        case htr => k_ne
        rotate_left
        · intro e9 dd9 gg9 tk9 n9 u9 nr9 h9 k9 hb F9 R9 m9 s9 U9
          k_steps
          exact hE _ _ _ _ _ _ _ _ _ (by first | exact bad_up hR hb | exact bad_up2 hR hb | exact bad_up3 hR hb) (by assumption) (by assumption) m9 (fun q hq => s9 q (.tail _ (.tail _ (.tail _ (List.mem_append.mpr (.inr hq)))))) (by assumption)
        refine use3 ?_
        intro h' tk' F' P9
        refine sign_out ?_
        intro c u4 q k1 k2 k3 t1 t2 t3 hp N'
        (try clear P9)
        rw [bind_ok hp] at hR
        (try dsimp only at hR)
        obtain ⟨hc, -⟩ := psign_mem hp
        have hc2 : c = 44 ∨ c = 93 := by simpa using hc
        have hlen2 : (vs ++ [Value.ref a9]).length + g ≤ f := by rw [List.length_append]; simp only [List.length_cons, List.length_nil]; omega
        rcases hc2 with rfl | rfl
        · rw [if_pos rfl] at hR
          k_steps
          rename News _ _ _ _ => nE'
          (try simp only [List.push_toArray] at nE')
          refine ksw_end (⟨true, vs ++ [.ref a9], n + 1, ts ++ [t], q, rdD w k1 k2 k3 o q (d + 1) t1 t2 t3, new1 ++ new, g⟩ : LS) (by assumption) nE' ?ztrue1false isRd_mk ?ztrue2false ?ztrue3false ⟨hva1, hnew1, hlen2, ?ztrue4false⟩ (Nat.lt_succ_self _)
          case ztrue1false => exact fun _ h => h
          case ztrue2false => exact List.forall_mem_cons.mpr ⟨rfl, List.forall_mem_nil _⟩
          case ztrue3false =>
            intro z h2 h3
            have h9 : z ≠ Str.ofString "is_open" := h2 (Str.ofString "is_open", _) (.head _)
            exact (if_neg h9).trans ((if_neg h9).trans rfl)
          case ztrue4false =>
            dsimp only
            exact (if_pos rfl).mpr ((pp_assoc _ _ _ (fin false n0 n1 n2 n3)).trans hR)
        · rw [if_neg (by decide)] at hR
          k_steps
          rename News _ _ _ _ => nE'
          (try simp only [List.push_toArray] at nE')
          refine ksw_end (⟨false, vs ++ [.ref a9], n + 1, ts ++ [t], q, rdD w k1 k2 k3 o q (d + 1) t1 t2 t3, new1 ++ new, g⟩ : LS) (by assumption) nE' ?zfalse1false isRd_mk ?zfalse2false ?zfalse3false ⟨hva1, hnew1, hlen2, ?zfalse4false⟩ (Nat.lt_succ_self _)
          case zfalse1false => exact fun _ h => h
          case zfalse2false => exact List.forall_mem_cons.mpr ⟨rfl, List.forall_mem_nil _⟩
          case zfalse3false =>
            intro z h2 h3
            have h9 : z ≠ Str.ofString "is_open" := h2 (Str.ofString "is_open", _) (.head _)
            exact (if_neg h9).trans ((if_neg h9).trans rfl)
          case zfalse4false =>
            dsimp only
            exact (if_neg Bool.false_ne_true).mpr hR
end
end Mine

namespace Mine
local macro_rules | `(tactic| omega) => `(tactic| lia)
theorem words_L0 : True := by
  k_with_none
  trivial
def IsDeck (w : World) (D : Obj) (cl : Addr) (a : Int) : Prop := ∃ t, D.IsDictOf (PySem.strKind PR w) [(Str.ofString "cells", .ref cl), (Str.ofString "at", .int a t)]
def IsPw (w : World) (D : Obj) (n : Int) : Prop := ∃ t, D.IsDictOf (PySem.strKind PR w) [(Str.ofString "pane", .int n t)]
abbrev dints (ns : List Int) : List Dat := ns.map Dat.int
section
variable {prog : Program} {w : World} {A : Around} {E : Value → Shared → Prop} {s : Shared} {h₀ : Heap} {L l : Addr}
theorem i_len {news : Led} {us : List Value} {ns : List Int} {n : Nat} {Q : Value → Shared → Prop} (N : News h₀ L s.heap news) (hm : (l, W.listOf us.toArray n) ∈ news) (hd : DatAll [] us (dints ns)) (hfit : (ns.length : Int) ≤ 1000)
    (h : Q (.int (ns.length : Int) (s.toks + 1)) { s with toks := s.toks + 1 + 1 }) : wpAny (model prog w) A (call (.builtin "len") [.ref l]) Q E s := by
  have e : ((dints ns).length : Int) = (ns.length : Int) := by rw [List.length_map]
  exact kd_len N hm hd (by rw [e]; omega) (by rw [e]; exact h)
theorem i_item {value slice : PySem.Expr} {news : Led} {us : List Value} {ns : List Int} {n : Nat} {k : Int} {u : Tok} {Q : Value → Shared → Prop} (N : News h₀ L s.heap news) (hm : (l, W.listOf us.toArray n) ∈ news) (hd : DatAll [] us (dints ns))
    (h0 : 0 ≤ k) (h1 : k < (ns.length : Int)) (hfit : (ns.length : Int) ≤ 1000) (h : ∀ x u, x ∈ ns → Q (.int x u) s)
    (hs : subscripted slice false (.ref l) (.int k u) = operate [.ref l, .int k u] (getItem (.ref l) (.int k u)) := by with_unfolding_all rfl) :
    wpAny (model prog w) A (subscriptTail value slice (.ref l) (.int k u)) Q E s := by
  refine kd_item N hm hd h0 (by rw [List.length_map]; exact h1) (by omega) (fun v d _ hm hD => ?_) hs
  obtain ⟨x, hx, rfl⟩ := List.mem_map.mp hm
  cases hD
  exact h x _ hx
theorem bytesInts {l : Addr} {vs : List Value} {k : Nat} {ns : List Int} {bs : List UInt8} {news : Led} {m : Str → Option Value} {Q : Value → Shared → Prop} (F : Fr h₀ L s.heap m) (N : News h₀ L s.heap news) (hm : (l, ({ cls := .type "list", data := .seq vs.toArray k } : Obj)) ∈ news) (hi : IntsAre vs ns) (hr : ∀ n ∈ ns, 0 ≤ n ∧ n < 256)
    (hz : vs.length ≤ 1000) (hh : A.handled = none) (e : (ns.map fun n => n.toNat.toUInt8) = bs) (h : ∀ h' t k, Fr h₀ L h' m → News h₀ L h' news → Q (.bytes bs.toArray t) { s with heap := h', toks := k }) : wpAny (model prog w) A (call (.type "bytes") [.ref l]) Q E s := by
  subst e
  exact bytes_K F N ⟨_, (N _ hm).1, rfl, k, rfl⟩ hi hr (by rw [sizeLine_eq]; omega) hh fun h' t k F N _ => h h' t k F N
end
end Mine

namespace Mine
local macro_rules | `(tactic| omega) => `(tactic| lia)
theorem words_G1 : True := by
  k_with_none
  trivial
open LCg
section
variable {prog : Program} {w : World} {A : Around} {E : Value → Shared → Prop} {s : Shared} {h₀ : Heap} {L : Addr} {m : Str → Option Value} {env : Env}
/-- the iterator of xv, made at s₁, gives n values by P, over ledgers with S -/
def IterG (prog : Program) (w : World) (A : Around) (h₀ : Heap) (L : Addr) (xv : Value) (s₁ : Shared) (n : Nat) (P : Nat → Value → Prop) (S : Led → Prop) : Prop :=
  ∀ (Q E : Value → Shared → Prop), (∀ (o : Obj) (fp : List Addr) (St : Nat → Heap → Prop), Walks prog w A s₁.heap.objs.size fp [s₁.heap.objs.size] n P St → (∀ i h, St i h → ∃ o, h.get? s₁.heap.objs.size = some o) →
    (∀ i (h h' : Heap) (o : Obj) (nw : Led), St i h → h.get? s₁.heap.objs.size = some o → h'.get? s₁.heap.objs.size = some o → (∀ b o, h₀.get? b = some o → h'.get? b = some o) → News h₀ L h' nw → S nw → St i h') →
    St 0 (s₁.heap.push o) → (∀ b ∈ fp, b < (s₁.heap.push o).objs.size) → Q (.ref s₁.heap.objs.size) { s₁ with heap := s₁.heap.push o }) → wpAny (model prog w) A (pyIter xv) Q E s₁
def SrcG (prog : Program) (w : World) (A : Around) (h₀ : Heap) (L : Addr) (m : Str → Option Value) (env : Env) (elt : PySem.Expr) (x : Str) (scope : Scope) (cl : List (Str × Addr)) (Fin : Shared → List Value → Led → Prop) (xv : Value) (s₁ : Shared) : Prop :=
  ∃ n P S news, Fr h₀ L s₁.heap m ∧ News h₀ L s₁.heap news ∧ S news ∧ n ≤ sizeLine ∧ IterG prog w A h₀ L xv s₁ n P S ∧ ∀ s₂ : Shared, (∃ h, s₂ = { s₁ with heap := h }) → CompRest prog w A h₀ L m env elt x scope cl s₂ S P (Fin s₂) n 0 [] news
theorem ListComp_G {elt iter : PySem.Expr} {x : Str} {px : Pos} {scope : Scope} {cl : List (Str × Addr)} {pos : Pos} {Q : Value → Shared → Prop} (F₀ : Fr h₀ L s.heap m)
    (hclos : closureFor scope env = pure cl) (hcell : ∀ y ∈ scope.names, y.2 ≠ .cell) (hkind : scope.kind = .function)
    (hnames : ∀ y ∈ scope.names, y.2 = .local → scope.names.lookup y.1 = some .local) (hx : scope.names.lookup x = some .local)
    (h : wpAny (model prog w) A (eval iter env) (SrcG prog w A h₀ L m env elt x scope cl (fun s₂ => FinE h₀ L m s₂ Q)) E s)
    (hs : ∀ x, foldedSetIterable iter env x = pure x := by intro _; rfl) :
    wpAny (model prog w) A (eval (.ListComp elt [⟨.Name x px, iter, [], 0⟩] scope pos) env) Q E s := by
  rw [eval_ListComp]
  refine wpAny_comprehension_free (use := none) rfl hs hclos hkind hnames (wpAny_mono h (fun xv s₁ h₁ => ?_) fun _ _ e => e)
  obtain ⟨n, P, S, news, F, N, hS, hsz, It, R⟩ := h₁
  refine It _ _ fun o fp St W hIo hSt st hfp => ?_
  have up : ∀ b o', s₁.heap.get? b = some o' → (s₁.heap.push o).get? b = some o' := fun b o' e => Heap.get?_push_of_some _ e
  refine block_U W hsz hIo hSt hcell hkind hx st hfp (F.keeps up) (N.grown up) (Nat.ne_of_lt F.ns.lt) (next_is_new F) (fun p hp => Nat.ne_of_lt (Heap.lt_size (N p hp).1)) hS (R _ ⟨_, rfl⟩) ?_
  intro D C h tk m' ys news' F' N' o1 hn hC₀ hD₀ hCL hDL hCD offC fin
  refine ⟨m', hn, fun h'' hs'' => fin D h'' tk (F'.change hs'' hCL hC₀) (fun p hp => ?_) o1⟩
  refine ⟨hs''.extBut _ _ ?_ (N' p hp).1, (N' p hp).2⟩
  rcases List.mem_cons.mp hp with rfl | hp
  · exact Ne.symm hCD
  · exact offC p hp
theorem cEnd {I C D : Addr} {s₁ : Shared} {oI oC oD : Obj} {S : Led → Prop} {rest : Value → Led → Prop} {y : Value} {h' : Heap} {tk : Nat} {news' : Led}
    (F : Fr h₀ L h' m) (N : News h₀ L h' ((I, oI) :: (C, oC) :: (D, oD) :: news')) (off : Off3 I C D news') (hS : S news') (r : rest y news') :
    CompEnd h₀ L m s₁ I oI C oC D oD S rest y { s₁ with heap := h', toks := tk } := CompEnd.intro F N news' (fun _ h => h) off hS r
def TupAt (ax : Addr) (its : Array Value) (news : Led) : Prop := ∃ n, (ax, ({ cls := .type "tuple", data := .seq its n } : Obj)) ∈ news
theorem IterG.tuple {ax : Addr} {its : Array Value} {news : Led} {s₁ : Shared} (hh : A.handled = none) (N : News h₀ L s₁.heap news) (hm : TupAt ax its news) :
    IterG prog w A h₀ L (.ref ax) s₁ its.size (fun i v => its[i]? = some v) (TupAt ax its) := by
  intro Q E hQ
  obtain ⟨n, hm⟩ := hm
  have ht : s₁.heap.IsTuple ax its := ⟨_, (N _ hm).1, rfl, n, rfl⟩
  have hlt : ax < s₁.heap.objs.size := Heap.lt_size (N _ hm).1
  refine wpAny_pyIter_tuple ht (hQ _ _ _ (Walks.tuple hh s₁.heap.objs.size ax (Nat.ne_of_lt hlt) its) (fun i h st => by obtain ⟨o, e, _⟩ := st.1; exact ⟨o, e⟩) ?_ ⟨⟨_, Heap.get?_push_size _ rfl, rfl, rfl⟩, ⟨_, Heap.get?_push_of_some _ (N _ hm).1, rfl, n, rfl⟩⟩ ?_)
  · intro i h h' o nw st e e' k N S
    obtain ⟨n, hm⟩ := S
    exact ⟨by obtain ⟨o', q, r⟩ := st.1; rw [e] at q; cases q; exact ⟨o, e', r⟩, ⟨_, (N _ hm).1, rfl, n, rfl⟩⟩
  · intro b hb
    rw [Heap.size_push]
    simp only [List.mem_cons, List.not_mem_nil, or_false] at hb
    rcases hb with rfl | rfl
    · exact Nat.lt_succ_self _
    · exact Nat.lt_succ_of_lt hlt
theorem IterG.str {x : Str} {t : Tok} {s₁ : Shared} (hh : A.handled = none) (ha : x.cps.all (· < 128) = true) :
    IterG prog w A h₀ L (.str x t) s₁ x.cps.size (SignAt x) (fun _ => True) := by
  intro Q E hQ
  refine wpAny_pyIter_ascii ha (hQ _ _ _ (Walks.strAscii hh _ x t) (fun i h st => by obtain ⟨o, e, _⟩ := st; exact ⟨o, e⟩) ?_ ⟨_, Heap.get?_push_size _ rfl, rfl, rfl⟩ ?_)
  · intro i h h' o nw st e e' k N S
    obtain ⟨o', q, r⟩ := st
    rw [e] at q
    cases q
    exact ⟨o, e', r⟩
  · intro b hb
    rw [Heap.size_push]
    simp only [List.mem_cons, List.not_mem_nil, or_false] at hb
    rw [hb]
    exact Nat.lt_succ_self _
end
end Mine

local macro_rules | `(tactic| k_ne) => `(tactic| (refine neN ?_; (try dsimp only); with_reducible first | exact Nat.ne_of_gt (by assumption) | exact Nat.ne_of_gt (And.left (by assumption)) | exact Nat.ne_of_gt (And.left (And.right (by assumption))) | exact Nat.ne_of_gt (And.right (by assumption)) | exact Nat.ne_of_gt (And.left (And.right (And.right (by assumption)))) | exact Nat.ne_of_gt (And.right (And.right (by assumption))) | exact Nat.ne_of_gt (And.left (And.right (And.right (And.right (by assumption))))) | exact Nat.ne_of_gt (And.right (And.right (And.right (by assumption)))) | exact Nat.ne_of_gt (And.left (And.right (And.right (And.right (And.right (by assumption)))))) | exact Nat.ne_of_gt (And.right (And.right (And.right (And.right (by assumption))))) | exact Nat.ne_of_gt (And.left (And.right (And.right (And.right (And.right (And.right (by assumption))))))) | exact Nat.ne_of_gt (And.right (And.right (And.right (And.right (And.right (by assumption)))))) | exact Nat.ne_of_lt (by assumption) | exact Nat.ne_of_lt (And.left (by assumption)) | exact Nat.ne_of_lt (And.left (And.right (by assumption))) | exact Nat.ne_of_lt (And.right (by assumption)) | exact Nat.ne_of_lt (And.left (And.right (And.right (by assumption)))) | exact Nat.ne_of_lt (And.right (And.right (by assumption))) | exact Nat.ne_of_lt (And.left (And.right (And.right (And.right (by assumption))))) | exact Nat.ne_of_lt (And.right (And.right (And.right (by assumption)))) | exact Nat.ne_of_lt (And.left (And.right (And.right (And.right (And.right (by assumption)))))) | exact Nat.ne_of_lt (And.right (And.right (And.right (And.right (by assumption))))) | exact Nat.ne_of_lt (And.left (And.right (And.right (And.right (And.right (And.right (by assumption))))))) | exact Nat.ne_of_lt (And.right (And.right (And.right (And.right (And.right (by assumption))))))))

namespace Mine
local macro_rules | `(tactic| omega) => `(tactic| lia)
theorem words_L10 : True := by
  k_with_none
  k_with "exec If" => (k_here; (with_reducible refine wpAny_If ?_); (refine fold_Q1 ?_; intro qk8w))
  k_with "exec Assign" => (k_here; (refine wpAny_Assign_Name ?_); (refine fold_Q1 ?_; intro qk8w))
  k_with "exec Return some" => (k_here; (refine wpAny_Return_some ?_); (refine fold_Q1 ?_; intro qk8w))
  k_with "eval Name" => (k_here; name_kind "globalImplicit"; (fail_if_success (with_reducible show wpAny _ _ (eval _ (compEnvC _ _ _ _)) _ _ _)); k_dflt (first | (name_is_builtin; refine' nameX_B ?Fw9 ?Xw9 ?Tw9 ?ew9 ?vw9 ?nw9 ?_ ?aw9 ?bw9; (case Fw9 => k_asm); (case Xw9 => k_asm); (case Tw9 => k_asm); (case aw9 => rfl); (case bw9 => rfl); (case ew9 => k_is); (case vw9 => boot_fast); (case nw9 => decide); k_whole) | (refine' nameX_K ?Fw9 ?Xw9 ?Tw9 ?ew9 ?_ ?aw9 ?bw9; (case Fw9 => k_asm); (case Xw9 => k_asm); (case Tw9 => k_asm); (case aw9 => rfl); (case bw9 => rfl); (case ew9 => k_is); k_whole)))
  k_with "eval Name" => (k_here; name_kind "local"; (fail_if_success (with_reducible show wpAny _ _ (eval _ (compEnvC _ _ _ _)) _ _ _)); k_dflt (refine' nameX_L ?Fw9 ?vw9 ?_ ?aw9 ?bw9; (case Fw9 => k_asm); (case aw9 => rfl); (case bw9 => rfl); (case vw9 => rfl); k_whole))
  k_with "eval Attribute Name" => (k_here; k_dflt (refine' own_L ?Fw9 ?Xw9 ?vw9 ?Nw9 ?iw9 ?jw9 ?k4w9 ?k5w9 ?k6w9 ?k7w9 ?k8w9 ?k9w9 ?_ ?aw9 ?bw9 ?cw9; (case Fw9 => k_asm); (case Xw9 => k_asm); (case aw9 => rfl); (case bw9 => rfl); (case cw9 => exact rfl); (case vw9 => rfl); (case Nw9 => k_asm); (case iw9 => k_mem); (case jw9 => k_mem); (case k4w9 => k_is); (case k5w9 => k_is); (case k6w9 => k_is); (case k7w9 => k_is); (case k8w9 => k_get); (case k9w9 => k_handed); k_whole))
  k_with "getAttr ref" => (k_here; k_dflt (refine' get_own ?k1w9 ?k2w9 ?k3w9 ?k4w9 ?k5w9 ?k6w9 ?k7w9 ?k8w9 ?k9w9 ?_; (case k1w9 => k_asm); (case k2w9 => k_asm); (case k3w9 => k_inst); (case k4w9 => k_is); (case k5w9 => k_is); (case k6w9 => k_is); (case k7w9 => k_is); (case k8w9 => k_get); (case k9w9 => k_handed); k_whole))
  k_with "ite" => (first | with_reducible refine ite_tt ?_ | with_reducible refine ite_ff ?_ | with_reducible refine ite_True_then ?_)
  k_with "WhlIf" => (first | (refine WhlIf.yes (by (simp only [decide_eq_true_eq]; omega)) ?_) | (refine WhlIf.no (by (simp only [decide_eq_false_iff_not]; omega)) ?_))
  k_with "subscriptTail" => (k_here; (with_reducible show wpAny _ _ (subscriptTail _ (PySem.Expr.Slice _ _ none _) (Value.bytes (List.toArray _) _) (Value.ref _)) _ _ _); (with_reducible rename Fr _ _ _ _ => F'w); (with_reducible rename News _ _ _ _ => N'w); first | (refine bslice_ij (s := ⟨_, _, _, _, _⟩) F'w N'w (by omega) (by omega) (by omega) (by first | with_reducible assumption | exact rfl) ?_; intro h'w t'w k'w F'w N'w; (try k_sweep)) | (refine bslice_j (s := ⟨_, _, _, _, _⟩) F'w N'w (by omega) (by omega) (by first | with_reducible assumption | exact rfl) ?_; intro h'w t'w k'w F'w N'w; (try k_sweep)) | (refine bslice_i (s := ⟨_, _, _, _, _⟩) F'w N'w (by omega) (by omega) (by first | with_reducible assumption | exact rfl) ?_; intro h'w t'w k'w F'w N'w; (try k_sweep)))
  k_with "exec Raise some none" => (k_here; (with_reducible show wpAny _ _ (exec (Stmt.Raise (some (PySem.Expr.Call (PySem.Expr.Name _ _) [_] [] _)) none _) _) _ _ _); k_dflt (refine' Raise_bad ?Fw9 ?Xw9 ?Tw9 ?hw9 ?_ ?ew9 ?kw9 ?xw9; (case Fw9 => k_asm); (case Xw9 => k_asm); (case Tw9 => k_asm); (case hw9 => rfl); (case ew9 => rfl); (case kw9 => rfl); (case xw9 => rfl); k_whole))
  k_with "RaiseB" => (k_dflt (refine' raise_here ?Bw9 ?Fw9 ?Xw9 ?Nw9 ?Tw9 ?kw9 ?dw9 ?_; (case Bw9 => k_asm); (case Fw9 => k_asm); (case Xw9 => k_asm); (case Nw9 => k_asm); (case Tw9 => k_asm); (case kw9 => rfl); (case dw9 => ktr_room)); intro e9w dd9w tk9w k9w h9w R9w U9w)
  k_with "leaving ref" => (k_here; (refine' raise_next ?Kw9 ?Fw9 ?Rw9 ?Uw9 ?_; (case Rw9 => assumption); (case Kw9 => assumption); (case Uw9 => assumption); (case Fw9 => assumption)); intro h9w R9w U9w)
  k_with "compareOp NotIn bytes ref" => (k_here; k_dflt (refine' notin_signs ?Nw9 ?tw9 ?iw9 ?_; (case Nw9 => k_asm); (case tw9 => k_mem); (case iw9 => first | assumption | exact .cons .nil | exact .cons (.cons .nil) | exact .cons (.cons (.cons .nil))); k_whole))
  k_with "call ref" => (k_here; (with_reducible show wpAny _ _ (call (Value.ref _) _ _) _ _ _); (fail_if_success (with_reducible show wpAny _ _ (call (Value.ref 78) _ _) _ _ _)); (fail_if_success (with_reducible show wpAny _ _ (call (Value.ref 175) _ _) _ _ _)); refine stop_of ?_)
  k_with "UnrEnd" => (k_here; (refine' unr_keep ?Fw9 ?Nw9 ?ow9 ?_; (case Fw9 => assumption); (case Nw9 => k_asm); (case ow9 => exact fun p hp => Nat.ne_of_lt ((by assumption : ∀ p ∈ _, p.1 < _) p hp)); k_whole))
  k_with "exec While BoolOp" => (k_here; k_dflt (refine whl_start 100 ?_))
  k_with "execs cons" => (k_here; (try k_gentoks); (try (refine fold_Q ?_; intro qk9w ek9w)); (with_reducible refine wpAny_execs_cons ?_); (try dsimp only))
  k_with "storeName" => (k_here; k_dflt (refine' storeX_M ?Fw9 ?Nw9 ?_ ?aw9 ?bw9; (case Fw9 => k_asm); (case Nw9 => k_asm); (case aw9 => rfl); (case bw9 => rfl); k_whole; intro m9w h'w t9w F'w N'w; (try k_sweep); (try dsimp only)))
  k_with "storeName" => (k_here; (first | with_reducible refine tok_intA ?_ | with_reducible refine tok_intS ?_ | with_reducible refine tok_bytA ?_ | with_reducible refine tok_bytS ?_); intro t9w)
  k_with "call builtin:list.append" => (k_here; (first | with_reducible refine tok_appA ?_ | with_reducible refine tok_appS ?_); intro t9w)
  k_with "call ref" => (k_here; (with_reducible show wpAny _ _ (call (Value.ref 78) _ _) _ _ _); refine stop_of ?_)
  k_with "callWith ref" => (k_here; (with_reducible show wpAny _ _ (callWith _ (Value.ref _) _ (backTo _ (starEach [] _)) []) _ _ _); k_dflt (refine' callWith_K0 ?k1w9 ?k2w9 ?_; (case k1w9 => k_in); (case k2w9 => k_is); k_whole))
  k_with "exec While Name" => (k_here; refine stop_of ?_)
  k_with "subscriptTail" => (k_here; (with_reducible show wpAny _ _ (subscriptTail _ _ (Value.ref _) (Value.str _ _)) _ _ _); k_dflt (refine kda_item (knd := PySem.strKind _ _) (by k_asm) (by k_mem) (by assumption) (strKind_is _ _ _ _) (by rfl) ?_))
  k_with "setItem ref str" => (k_here; k_dflt (refine' kda_set (knd := PySem.strKind _ _) ?Fw9 ?Nw9 ?Uw9 ?dw9 (strKind_is _ _ _ _) ?zw9 ?_; (case Fw9 => k_asm); (case Nw9 => k_asm); (case Uw9 => k_updF); (case dw9 => assumption); (case zw9 => rw [sizeLine_eq]; exact Nat.le_of_ble_eq_true (by with_unfolding_all rfl))); intro h'w o'w F'w N'w hd'w; (try dsimp only at N'w))
  k_with "call builtin:len" => (k_here; k_dflt (refine i_len (by k_asm) (by k_mem) (by assumption) (by omega) ?_))
  k_with "exec For Name Name cons nil" => (k_here; (rename Fr _ _ _ _ => lF'w); (with_unfolding_all refine' For_invVF lF'w ?k1w9 ?k2w9 ?_; (case k1w9 => exact rfl); (case k2w9 => exact rfl); k_whole))
  k_with "subscriptTail" => (k_here; (with_reducible show wpAny _ _ (subscriptTail _ _ (Value.ref _) (Value.int _ _)) _ _ _); refine stop_of ?_)
  trivial
section
variable {w : World} {mean : ExcName → Option Value} {mg mb : Str → Option Value}
theorem c_draw (dk cl : Addr) (D : Obj) (at0 below : Int) (tb : Tok) (vs : List Value) (ns : List Int) (nl : Nat) (rest : Led) (hD : IsDeck w D cl at0) (hcl : (cl, W.listOf vs.toArray nl) ∈ rest) (hvs : DatAll [] vs (dints ns))
   (hns : ∀ n ∈ ns, 0 ≤ n ∧ n < 1000000007) (hlen : ns.length ≤ 24) (ha : 0 ≤ at0) (ha2 : at0 ≤ 100) (hb : 0 < below) (hb2 : below ≤ 1000) (hr : ∀ q ∈ rest, q.1 ≠ dk) :
   CT w mean mg mb 196 [.ref dk, .int below tb] 5 ((dk, D) :: rest)
     (fun r n' => ∃ v u D', r = .int v u ∧ 0 ≤ v ∧ v < below ∧ IsDeck w D' cl (at0 + 1) ∧ n' = (dk, D') :: rest) := by
  intro dp un gd cn cs a ccd cl0 outer A₀ base h₀ L m s Q E B F X N T hk hdp hun hQ
  obtain ⟨t1, hD⟩ := hD
  refine wpAny_call ?_
  k_dflt ktr_enter
  rename Fr _ _ _ _ => lF9
  refine fold_m lF9 ?_
  clear lF9
  intro m9 lF9
  by_cases h1 : at0 < (ns.length : Int)
  · k_steps
    unfold Stop
    k_dflt (refine i_item (by k_asm) (by k_mem) (by assumption) (by omega) (by omega) (by omega) ?_)
    intro x u hx
    obtain ⟨hx1, hx2⟩ := hns x hx
    k_steps
    exact hQ _ ((dk, _) :: rest) _ _ (by k_asm) (News.subs (by k_asm) (by kqd_sub)) ⟨_, _, _, rfl, Int.fmod_nonneg_of_pos _ hb, Int.fmod_lt_of_pos _ hb, ⟨_, by assumption⟩, rfl⟩
  by_cases h2 : ns = []
  · subst h2
    k_steps
    exact hQ _ ((dk, _) :: rest) _ _ (by k_asm) (News.subs (by k_asm) (by kqd_sub)) ⟨_, _, _, rfl, Int.fmod_nonneg_of_pos _ hb, Int.fmod_lt_of_pos _ hb, ⟨_, by assumption⟩, rfl⟩
  have h3 : 0 < (ns.length : Int) := by cases ns with | nil => exact absurd rfl h2 | cons _ _ => simp only [List.length_cons]; omega
  have h4 : (ns.length : Int) ≠ 0 := by omega
  have h5 : dints ns ≠ [] := fun e => h2 (List.map_eq_nil_iff.mp e)
  have h6 : 0 ≤ at0.fmod (ns.length : Int) := Int.fmod_nonneg_of_pos _ h3
  have h7 : at0.fmod (ns.length : Int) < (ns.length : Int) := Int.fmod_lt_of_pos _ h3
  k_steps
  unfold Stop
  k_dflt (refine i_item (by k_asm) (by k_mem) (by assumption) h6 h7 (by omega) ?_)
  intro x u hx
  obtain ⟨hx1, hx2⟩ := hns x hx
  k_steps
  exact hQ _ ((dk, _) :: rest) _ _ (by k_asm) (News.subs (by k_asm) (by kqd_sub)) ⟨_, _, _, rfl, Int.fmod_nonneg_of_pos _ hb, Int.fmod_lt_of_pos _ hb, ⟨_, by assumption⟩, rfl⟩
end
end Mine

namespace Mine
local macro_rules | `(tactic| omega) => `(tactic| lia)
theorem words_L20 : True := by
  k_with_none
  k_with "exec If" => (k_here; (with_reducible refine wpAny_If ?_); (refine fold_Q1 ?_; intro qk8w))
  k_with "exec Assign" => (k_here; (refine wpAny_Assign_Name ?_); (refine fold_Q1 ?_; intro qk8w))
  k_with "exec Return some" => (k_here; (refine wpAny_Return_some ?_); (refine fold_Q1 ?_; intro qk8w))
  k_with "eval Name" => (k_here; name_kind "globalImplicit"; (fail_if_success (with_reducible show wpAny _ _ (eval _ (compEnvC _ _ _ _)) _ _ _)); k_dflt (first | (name_is_builtin; refine' nameX_B ?Fw9 ?Xw9 ?Tw9 ?ew9 ?vw9 ?nw9 ?_ ?aw9 ?bw9; (case Fw9 => k_asm); (case Xw9 => k_asm); (case Tw9 => k_asm); (case aw9 => rfl); (case bw9 => rfl); (case ew9 => k_is); (case vw9 => boot_fast); (case nw9 => decide); k_whole) | (refine' nameX_K ?Fw9 ?Xw9 ?Tw9 ?ew9 ?_ ?aw9 ?bw9; (case Fw9 => k_asm); (case Xw9 => k_asm); (case Tw9 => k_asm); (case aw9 => rfl); (case bw9 => rfl); (case ew9 => k_is); k_whole)))
  k_with "eval Name" => (k_here; name_kind "local"; (fail_if_success (with_reducible show wpAny _ _ (eval _ (compEnvC _ _ _ _)) _ _ _)); k_dflt (refine' nameX_L ?Fw9 ?vw9 ?_ ?aw9 ?bw9; (case Fw9 => k_asm); (case aw9 => rfl); (case bw9 => rfl); (case vw9 => rfl); k_whole))
  k_with "eval Attribute Name" => (k_here; k_dflt (refine' own_L ?Fw9 ?Xw9 ?vw9 ?Nw9 ?iw9 ?jw9 ?k4w9 ?k5w9 ?k6w9 ?k7w9 ?k8w9 ?k9w9 ?_ ?aw9 ?bw9 ?cw9; (case Fw9 => k_asm); (case Xw9 => k_asm); (case aw9 => rfl); (case bw9 => rfl); (case cw9 => exact rfl); (case vw9 => rfl); (case Nw9 => k_asm); (case iw9 => k_mem); (case jw9 => k_mem); (case k4w9 => k_is); (case k5w9 => k_is); (case k6w9 => k_is); (case k7w9 => k_is); (case k8w9 => k_get); (case k9w9 => k_handed); k_whole))
  k_with "getAttr ref" => (k_here; k_dflt (refine' get_own ?k1w9 ?k2w9 ?k3w9 ?k4w9 ?k5w9 ?k6w9 ?k7w9 ?k8w9 ?k9w9 ?_; (case k1w9 => k_asm); (case k2w9 => k_asm); (case k3w9 => k_inst); (case k4w9 => k_is); (case k5w9 => k_is); (case k6w9 => k_is); (case k7w9 => k_is); (case k8w9 => k_get); (case k9w9 => k_handed); k_whole))
  k_with "ite" => (first | with_reducible refine ite_tt ?_ | with_reducible refine ite_ff ?_ | with_reducible refine ite_True_then ?_)
  k_with "WhlIf" => (first | (refine WhlIf.yes (by (simp only [decide_eq_true_eq]; omega)) ?_) | (refine WhlIf.no (by (simp only [decide_eq_false_iff_not]; omega)) ?_))
  k_with "subscriptTail" => (k_here; (with_reducible show wpAny _ _ (subscriptTail _ (PySem.Expr.Slice _ _ none _) (Value.bytes (List.toArray _) _) (Value.ref _)) _ _ _); (with_reducible rename Fr _ _ _ _ => F'w); (with_reducible rename News _ _ _ _ => N'w); first | (refine bslice_ij (s := ⟨_, _, _, _, _⟩) F'w N'w (by omega) (by omega) (by omega) (by first | with_reducible assumption | exact rfl) ?_; intro h'w t'w k'w F'w N'w; (try k_sweep)) | (refine bslice_j (s := ⟨_, _, _, _, _⟩) F'w N'w (by omega) (by omega) (by first | with_reducible assumption | exact rfl) ?_; intro h'w t'w k'w F'w N'w; (try k_sweep)) | (refine bslice_i (s := ⟨_, _, _, _, _⟩) F'w N'w (by omega) (by omega) (by first | with_reducible assumption | exact rfl) ?_; intro h'w t'w k'w F'w N'w; (try k_sweep)))
  k_with "exec Raise some none" => (k_here; (with_reducible show wpAny _ _ (exec (Stmt.Raise (some (PySem.Expr.Call (PySem.Expr.Name _ _) [_] [] _)) none _) _) _ _ _); k_dflt (refine' Raise_bad ?Fw9 ?Xw9 ?Tw9 ?hw9 ?_ ?ew9 ?kw9 ?xw9; (case Fw9 => k_asm); (case Xw9 => k_asm); (case Tw9 => k_asm); (case hw9 => rfl); (case ew9 => rfl); (case kw9 => rfl); (case xw9 => rfl); k_whole))
  k_with "RaiseB" => (k_dflt (refine' raise_here ?Bw9 ?Fw9 ?Xw9 ?Nw9 ?Tw9 ?kw9 ?dw9 ?_; (case Bw9 => k_asm); (case Fw9 => k_asm); (case Xw9 => k_asm); (case Nw9 => k_asm); (case Tw9 => k_asm); (case kw9 => rfl); (case dw9 => ktr_room)); intro e9w dd9w tk9w k9w h9w R9w U9w)
  k_with "leaving ref" => (k_here; (refine' raise_next ?Kw9 ?Fw9 ?Rw9 ?Uw9 ?_; (case Rw9 => assumption); (case Kw9 => assumption); (case Uw9 => assumption); (case Fw9 => assumption)); intro h9w R9w U9w)
  k_with "compareOp NotIn bytes ref" => (k_here; k_dflt (refine' notin_signs ?Nw9 ?tw9 ?iw9 ?_; (case Nw9 => k_asm); (case tw9 => k_mem); (case iw9 => first | assumption | exact .cons .nil | exact .cons (.cons .nil) | exact .cons (.cons (.cons .nil))); k_whole))
  k_with "call ref" => (k_here; (with_reducible show wpAny _ _ (call (Value.ref _) _ _) _ _ _); (fail_if_success (with_reducible show wpAny _ _ (call (Value.ref 78) _ _) _ _ _)); (fail_if_success (with_reducible show wpAny _ _ (call (Value.ref 175) _ _) _ _ _)); refine stop_of ?_)
  k_with "UnrEnd" => (k_here; (refine' unr_keep ?Fw9 ?Nw9 ?ow9 ?_; (case Fw9 => assumption); (case Nw9 => k_asm); (case ow9 => exact fun p hp => Nat.ne_of_lt ((by assumption : ∀ p ∈ _, p.1 < _) p hp)); k_whole))
  k_with "exec While BoolOp" => (k_here; k_dflt (refine whl_start 100 ?_))
  k_with "execs cons" => (k_here; (try k_gentoks); (try (refine fold_Q ?_; intro qk9w ek9w)); (with_reducible refine wpAny_execs_cons ?_); (try dsimp only))
  k_with "storeName" => (k_here; k_dflt (refine' storeX_M ?Fw9 ?Nw9 ?_ ?aw9 ?bw9; (case Fw9 => k_asm); (case Nw9 => k_asm); (case aw9 => rfl); (case bw9 => rfl); k_whole; intro m9w h'w t9w F'w N'w; (try k_sweep); (try dsimp only)))
  k_with "storeName" => (k_here; (first | with_reducible refine tok_intA ?_ | with_reducible refine tok_intS ?_ | with_reducible refine tok_bytA ?_ | with_reducible refine tok_bytS ?_); intro t9w)
  k_with "call builtin:list.append" => (k_here; (first | with_reducible refine tok_appA ?_ | with_reducible refine tok_appS ?_); intro t9w)
  k_with "call ref" => (k_here; (with_reducible show wpAny _ _ (call (Value.ref 78) _ _) _ _ _); refine stop_of ?_)
  k_with "callWith ref" => (k_here; (with_reducible show wpAny _ _ (callWith _ (Value.ref _) _ (backTo _ (starEach [] _)) []) _ _ _); k_dflt (refine' callWith_K0 ?k1w9 ?k2w9 ?_; (case k1w9 => k_in); (case k2w9 => k_is); k_whole))
  k_with "exec While Name" => (k_here; refine stop_of ?_)
  k_with "subscriptTail" => (k_here; (with_reducible show wpAny _ _ (subscriptTail _ _ (Value.ref _) (Value.str _ _)) _ _ _); k_dflt (refine kda_item (knd := PySem.strKind _ _) (by k_asm) (by k_mem) (by assumption) (strKind_is _ _ _ _) (by rfl) ?_))
  k_with "setItem ref str" => (k_here; k_dflt (refine' kda_set (knd := PySem.strKind _ _) ?Fw9 ?Nw9 ?Uw9 ?dw9 (strKind_is _ _ _ _) ?zw9 ?_; (case Fw9 => k_asm); (case Nw9 => k_asm); (case Uw9 => k_updF); (case dw9 => assumption); (case zw9 => rw [sizeLine_eq]; exact Nat.le_of_ble_eq_true (by with_unfolding_all rfl))); intro h'w o'w F'w N'w hd'w; (try dsimp only at N'w))
  k_with "call builtin:len" => (k_here; k_dflt (refine i_len (by k_asm) (by k_mem) (by assumption) (by omega) ?_))
  k_with "exec For Name Name cons nil" => (k_here; (rename Fr _ _ _ _ => lF'w); (with_unfolding_all refine' For_invVF lF'w ?k1w9 ?k2w9 ?_; (case k1w9 => exact rfl); (case k2w9 => exact rfl); k_whole))
  k_with "eval ListComp" => (k_here; k_dflt (refine ListComp_G (F₀ := by k_asm) (by rfl) (by decide) (by rfl) (by decide) (by rfl) ?_))
  k_with "subscriptTail" => (k_here; (with_reducible show wpAny _ _ (subscriptTail _ _ (Value.bytes _ _) (Value.int _ _)) _ _ _); refine stop_of ?_)
  k_with "call type:bytes" => (k_here; refine stop_of ?_)
  k_with "call builtin:bytes.join" => (k_here; refine stop_of ?_)
  trivial
def decN (n : Nat) : List Nat := if n < 10 then [48 + n] else [48 + n / 10, 48 + n % 10]
theorem figs_cps : ∀ k : Fin 100, (Str.ofString (toString ((k.1 : Nat) : Int))).cps.toList = decN k.1 := by decide +kernel
theorem figs_of (n : Int) (h0 : 0 ≤ n) (h1 : n < 100) : (Str.ofString (toString n)).cps = (decN n.toNat).toArray := by
  obtain ⟨k, rfl⟩ := Int.eq_ofNat_of_zero_le h0
  have := figs_cps ⟨k, by omega⟩
  rw [Int.toNat_natCast, ← this, Array.toArray_toList]
section
variable {w : World} {mean : ExcName → Option Value} {mg mb : Str → Option Value}
theorem c_figs (n : Int) (t : Tok) (h0 : 0 ≤ n) (h1 : n < 100) (rest : Led) : CT w mean mg mb 201 [.int n t] 5 rest (fun r n' => ∃ u, r = .bytes (dec n).toArray u ∧ n' = rest) := by
  intro dp un gd cn cs a ccd cl0 outer A₀ base h₀ L m s Q E B F X N T hk hdp hun hQ
  refine wpAny_call ?_
  k_dflt ktr_enter
  rename Fr _ _ _ _ => lF9
  refine fold_m lF9 ?_
  clear lF9
  intro m9 lF9
  have hx := figs_of n h0 h1
  k_steps
  generalize Str.ofString (toString n) = x at hx
  by_cases h2 : n < 10
  · rw [decN, if_pos (by omega)] at hx
    have hsz : x.cps.size = 1 := by rw [hx]; rfl
    refine ⟨x.cps.size, _, _, rest, by k_asm, by k_asm, trivial, by rw [hsz, sizeLine_eq]; decide, IterG.str rfl ?_, ?_⟩
    · rw [hx]
      simp
      omega
    rintro s₂ ⟨g, rfl⟩
    rw [hsz]
    refine LCg.CompRest.succ ?_
    rintro v' I' oI' C' oC' D' m' h' tk' E' ⟨c, u, hc, rfl⟩ hC' hx' F' N' off' ne'
    rw [hx] at hc
    cases hc
    k_steps
    refine cEnd (by k_asm) (by k_asm) (by assumption) trivial (LCg.CompRest.zero ?_)
    intro D' h' tk' F' N' o1'
    dsimp only
    k_steps
    unfold Stop
    k_dflt (refine bytesInts (bs := dec n) (by k_asm) (by k_asm) (.head _) (.cons _ _ .nil) ?hr (Nat.le_of_ble_eq_true rfl) (by rfl) ?e ?_)
    case hr => exact List.forall_mem_cons.mpr ⟨⟨by show (0 : Int) ≤ ((48 + n.toNat : Nat) : Int); omega, by show ((48 + n.toNat : Nat) : Int) < 256; omega⟩, List.forall_mem_nil _⟩
    case e => rw [dec, if_pos h2]; show [((48 + n.toNat : Nat) : Int).toNat.toUInt8] = _; congr 2; omega
    intro h' t' k' F' N'
    k_steps
    exact hQ _ rest _ _ (by k_asm) (News.subs (by k_asm) (by kqd_sub)) ⟨_, rfl, rfl⟩
  · rw [decN, if_neg (by omega)] at hx
    have hsz : x.cps.size = 2 := by rw [hx]; rfl
    refine ⟨x.cps.size, _, _, rest, by k_asm, by k_asm, trivial, by rw [hsz, sizeLine_eq]; decide, IterG.str rfl ?_, ?_⟩
    · rw [hx]
      simp
      omega
    rintro s₂ ⟨g, rfl⟩
    rw [hsz]
    refine LCg.CompRest.succ ?_
    rintro v' I' oI' C' oC' D' m' h' tk' E' ⟨c, u, hc, rfl⟩ hC' hx' F' N' off' ne'
    rw [hx] at hc
    cases hc
    k_steps
    refine cEnd (by k_asm) (by k_asm) (by assumption) trivial (LCg.CompRest.succ ?_)
    rintro v' I' oI' C' oC' D' m' h' tk' E' ⟨c, u, hc, rfl⟩ hC' hx' F' N' off' ne'
    rw [hx] at hc
    cases hc
    k_steps
    refine cEnd (by k_asm) (by k_asm) (by assumption) trivial (LCg.CompRest.zero ?_)
    intro D' h' tk' F' N' o1'
    dsimp only
    k_steps
    unfold Stop
    k_dflt (refine bytesInts (bs := dec n) (by k_asm) (by k_asm) (.head _) (.cons _ _ (.cons _ _ .nil)) ?hr (Nat.le_of_ble_eq_true rfl) (by rfl) ?e ?_)
    case hr => exact List.forall_mem_cons.mpr ⟨⟨by show (0 : Int) ≤ ((48 + n.toNat / 10 : Nat) : Int); omega, by show ((48 + n.toNat / 10 : Nat) : Int) < 256; omega⟩, List.forall_mem_cons.mpr ⟨⟨by show (0 : Int) ≤ ((48 + n.toNat % 10 : Nat) : Int); omega, by show ((48 + n.toNat % 10 : Nat) : Int) < 256; omega⟩, List.forall_mem_nil _⟩⟩
    case e =>
      rw [dec, if_neg h2]
      show [((48 + n.toNat / 10 : Nat) : Int).toNat.toUInt8, ((48 + n.toNat % 10 : Nat) : Int).toNat.toUInt8] = _
      congr 2
      · congr 1
        omega
      · congr 2
        omega
    intro h' t' k' F' N'
    k_steps
    exact hQ _ rest _ _ (by k_asm) (News.subs (by k_asm) (by kqd_sub)) ⟨_, rfl, rfl⟩
end
end Mine

namespace Mine
local macro_rules | `(tactic| omega) => `(tactic| lia)
theorem words_P2 : True := by
  k_with_none
  trivial
def T.dat : T → Dat
  | .pane w h x y n => .tuple [.str (Str.ofString "pane"), .int w, .int h, .int x, .int y, .list [], .int n]
  | .two row w h x y a b => .tuple [.str (kindS row), .int w, .int h, .int x, .int y, .list [a.dat, b.dat], .none]
  | .three row w h x y a b c => .tuple [.str (kindS row), .int w, .int h, .int x, .int y, .list [a.dat, b.dat, c.dat], .none]
/-- the trees that the law draws: n the last pane's number ahead, k behind -/
inductive Tr : Nat → Bool → Int → Int → Int → Int → Int → T → Int → Prop
  | pane {d : Nat} {row : Bool} {w h x y n k : Int} : 1 ≤ w → 1 ≤ h → n < k → k ≤ n + 3 → Tr d row w h x y n (.pane w h x y k) k
  | row2 {d : Nat} {w h x y n n1 n2 wa wb : Int} {a b : T} : 1 ≤ wa → 1 ≤ wb → wa + wb + 1 = w → Tr d false wa h x y n a n1 → Tr d false wb h (x + (wa + 1)) y n1 b n2 → Tr (d + 1) true w h x y n (.two true w h x y a b) n2
  | row3 {d : Nat} {w h x y n n1 n2 n3 wa wb wc : Int} {a b c : T} : 1 ≤ wa → 1 ≤ wb → 1 ≤ wc → wa + wb + wc + 2 = w → Tr d false wa h x y n a n1 → Tr d false wb h (x + (wa + 1)) y n1 b n2 → Tr d false wc h (x + (wa + 1 + wb + 1)) y n2 c n3 → Tr (d + 1) true w h x y n (.three true w h x y a b c) n3
  | col2 {d : Nat} {w h x y n n1 n2 wa wb : Int} {a b : T} : 1 ≤ wa → 1 ≤ wb → wa + wb + 1 = h → Tr d true w wa x y n a n1 → Tr d true w wb x (y + (wa + 1)) n1 b n2 → Tr (d + 1) false w h x y n (.two false w h x y a b) n2
  | col3 {d : Nat} {w h x y n n1 n2 n3 wa wb wc : Int} {a b c : T} : 1 ≤ wa → 1 ≤ wb → 1 ≤ wc → wa + wb + wc + 2 = h → Tr d true w wa x y n a n1 → Tr d true w wb x (y + (wa + 1)) n1 b n2 → Tr d true w wc x (y + (wa + 1 + wb + 1)) n2 c n3 → Tr (d + 1) false w h x y n (.three false w h x y a b c) n3
def cost : Nat → Int
  | 0 => 2
  | d + 1 => 5 + 3 * cost d
def maxP : Nat → Int
  | 0 => 3
  | d + 1 => 3 * maxP d
theorem cost_pos : ∀ d, 2 ≤ cost d
  | 0 => by decide
  | d + 1 => by have := cost_pos d; simp only [cost]; omega
theorem maxP_pos : ∀ d, 3 ≤ maxP d
  | 0 => by decide
  | d + 1 => by have := maxP_pos d; simp only [maxP]; omega
theorem Tr.le {d : Nat} {row : Bool} {w h x y n k : Int} {t : T} (H : Tr d row w h x y n t k) : n < k ∧ k ≤ n + maxP d := by
  induction H with
  | @pane d _ _ _ _ _ _ _ _ _ h1 h2 => exact ⟨h1, by have := maxP_pos d; omega⟩
  | row2 _ _ _ _ _ i1 i2 => simp only [maxP]; omega
  | row3 _ _ _ _ _ _ _ i1 i2 i3 => simp only [maxP]; omega
  | col2 _ _ _ _ _ i1 i2 => simp only [maxP]; omega
  | col3 _ _ _ _ _ _ _ i1 i2 i3 => simp only [maxP]; omega
theorem Above.sub {new base base' : Led} (h : Above new base) (hs : ∀ p ∈ base', ∃ o, (p.1, o) ∈ base) : Above new base' := fun q hq p hp => by
  obtain ⟨o, ho⟩ := hs p hp
  exact (h q hq (p.1, o) ho : _)
theorem Above.app {a b base : Led} (h1 : Above a base) (h2 : Above b base) : Above (a ++ b) base := fun q hq p hp => (List.mem_append.mp hq).elim (fun h => h1 q h p hp) fun h => h2 q h p hp
theorem off_app {new base rest : Led} {a : Addr} {o : Obj} (h : Above new base) (hm : (a, o) ∈ base) (hr : ∀ q ∈ rest, q.1 ≠ a) : ∀ q ∈ new ++ rest, q.1 ≠ a := fun q hq => (List.mem_append.mp hq).elim (fun z => Nat.ne_of_gt (h q z _ hm)) (hr q)
/-- no address of new is one of base -/
def Apart (new base : Led) : Prop := ∀ q ∈ new, ∀ p ∈ base, q.1 ≠ p.1
theorem Above.apart {new base : Led} (h : Above new base) : Apart new base := fun q hq p hp => Nat.ne_of_gt (h q hq p hp)
theorem Apart.nil {base : Led} : Apart [] base := fun _ h => nomatch h
theorem Apart.sub {new base base' : Led} (h : Apart new base) (hs : ∀ p ∈ base', ∃ o, (p.1, o) ∈ base) : Apart new base' := fun q hq p hp => by
  obtain ⟨o, ho⟩ := hs p hp
  exact (h q hq (p.1, o) ho : _)
theorem Apart.subs {new base base' : Led} (h : Apart new base) (hs : ∀ p ∈ base', p ∈ base) : Apart new base' := fun q hq p hp => h q hq p (hs p hp)
theorem Apart.app {a b base : Led} (h1 : Apart a base) (h2 : Apart b base) : Apart (a ++ b) base := fun q hq p hp => (List.mem_append.mp hq).elim (fun h => h1 q h p hp) fun h => h2 q h p hp
theorem Apart.off {new base rest : Led} {a : Addr} {o : Obj} (h : Apart new base) (hm : (a, o) ∈ base) (hr : ∀ q ∈ rest, q.1 ≠ a) : ∀ q ∈ new ++ rest, q.1 ≠ a := fun q hq => (List.mem_append.mp hq).elim (fun z => h q z _ hm) (hr q)
theorem apart_cell {a d lp : Addr} {oa od ol : Obj} {nw R news : Led} (h1 : ∀ p ∈ (lp, ol) :: R, p.1 < d) (h2 : @LT.lt Nat _ d a) (o : LCg.Off1 lp R) (hr : ∀ p ∈ news, p ∈ R) (hn : Apart nw news) : Apart ((a, oa) :: (d, od) :: (lp, ol) :: nw) news := by
  have o' : ∀ {l : Led}, LCg.Off1 lp l → ∀ p ∈ l, p.1 ≠ lp := by
    intro l
    induction l with
    | nil => exact fun _ _ h => nomatch h
    | cons x l ih =>
      intro h p hp
      rcases List.mem_cons.mp hp with rfl | hp
      · exact h.1
      · exact ih h.2 p hp
  intro q hq p hp
  have hp' := hr p hp
  rcases List.mem_cons.mp hq with rfl | hq
  · exact Nat.ne_of_gt (Nat.lt_trans (h1 p (.tail _ hp')) h2)
  rcases List.mem_cons.mp hq with rfl | hq
  · exact Nat.ne_of_gt (h1 p (.tail _ hp'))
  rcases List.mem_cons.mp hq with rfl | hq
  · exact fun e => o' o p hp' e.symm
  exact hn q hq p hp
end Mine

namespace Mine
local macro_rules | `(tactic| omega) => `(tactic| lia)
theorem words_P3 : True := by
  k_with_none
  trivial
def T.dep : T → Nat
  | .pane .. => 0
  | .two _ _ _ _ _ a b => 1 + a.dep + b.dep
  | .three _ _ _ _ _ a b c => 1 + a.dep + b.dep + c.dep
theorem dTup {news : Led} {v : Value} {ds : List Dat} (H : DatIn news v (.tuple ds)) : ∃ a vs n, v = .ref a ∧ (a, ({ cls := .type "tuple", data := .seq vs.toArray n } : Obj)) ∈ news ∧ DatAll news vs ds := by
  cases H with | tuple h r => exact ⟨_, _, _, rfl, h, r⟩
theorem dAll_cons {news : Led} {d : Dat} {ds : List Dat} {P : List Value → Prop} (k : ∀ v (_ : Unit), DatIn news v d → ∀ l, DatAll news l ds → P (v :: l)) : ∀ l, DatAll news l (d :: ds) → P l := by
  intro l h
  cases h with | cons h1 h2 => exact k _ () h1 _ h2
theorem dAll_nil {news : Led} {P : List Value → Prop} (k : P []) : ∀ l, DatAll news l [] → P l := by
  intro l h
  cases h
  exact k
theorem d7_k {news : Led} {kd : Str} {w h x y : Int} {ds : List Dat} {z : Dat} {P : Value → Prop}
    (kk : ∀ a n l n2 t1 t2 t3 t4 t5 vs vz, (a, ({ cls := .type "tuple", data := .seq #[.str kd t1, .int w t2, .int h t3, .int x t4, .int y t5, .ref l, vz] n } : Obj)) ∈ news → (l, W.listOf vs.toArray n2) ∈ news → DatAll news vs ds → DatIn news vz z → P (.ref a)) : ∀ v, DatIn news v (.tuple [.str kd, .int w, .int h, .int x, .int y, .list ds, z]) → P v := by
  intro v H
  cases H with | tuple hm H =>
  revert H
  revert hm
  refine fun hm H => dAll_cons (P := fun l => (_, ({ cls := .type "tuple", data := .seq l.toArray _ } : Obj)) ∈ news → P (.ref _)) (fun v1 _ h1 => dAll_cons fun v2 _ h2 => dAll_cons fun v3 _ h3 => dAll_cons fun v4 _ h4 => dAll_cons fun v5 _ h5 => dAll_cons fun v6 _ h6 => dAll_cons fun v7 _ h7 => dAll_nil fun hm => ?_) _ H hm
  cases h1; cases h2; cases h3; cases h4; cases h5
  cases h6 with | list hl hd =>
  exact kk _ _ _ _ _ _ _ _ _ _ _ hm hl hd h7
theorem dat_pane_k {news : Led} {w h x y k : Int} {P : Value → Prop}
    (kk : ∀ a n l n2 t1 t2 t3 t4 t5 t6, (a, ({ cls := .type "tuple", data := .seq #[.str (Str.ofString "pane") t1, .int w t2, .int h t3, .int x t4, .int y t5, .ref l, .int k t6] n } : Obj)) ∈ news → (l, W.listOf #[] n2) ∈ news → P (.ref a)) : ∀ v, DatIn news v (T.pane w h x y k).dat → P v := by
  refine d7_k fun a n l n2 t1 t2 t3 t4 t5 vs z hm hl hd hz => ?_
  cases hd
  cases hz
  exact kk _ _ _ _ _ _ _ _ _ _ hm hl
theorem dat_two_k {news : Led} {row : Bool} {w h x y : Int} {ta tb : T} {P : Value → Prop}
    (kk : ∀ a n l n2 t1 t2 t3 t4 t5 va vb, (a, ({ cls := .type "tuple", data := .seq #[.str (kindS row) t1, .int w t2, .int h t3, .int x t4, .int y t5, .ref l, .none] n } : Obj)) ∈ news → (l, W.listOf #[va, vb] n2) ∈ news → DatIn news va ta.dat → DatIn news vb tb.dat → P (.ref a)) : ∀ v, DatIn news v (T.two row w h x y ta tb).dat → P v := by
  refine d7_k fun a n l n2 t1 t2 t3 t4 t5 vs z hm hl hd hz => ?_
  cases hz
  obtain _ | ⟨h1, hd⟩ := hd
  obtain _ | ⟨h2, hd⟩ := hd
  cases hd
  exact kk _ _ _ _ _ _ _ _ _ _ _ hm hl h1 h2
theorem dat_three_k {news : Led} {row : Bool} {w h x y : Int} {ta tb tc : T} {P : Value → Prop}
    (kk : ∀ a n l n2 t1 t2 t3 t4 t5 va vb vc, (a, ({ cls := .type "tuple", data := .seq #[.str (kindS row) t1, .int w t2, .int h t3, .int x t4, .int y t5, .ref l, .none] n } : Obj)) ∈ news → (l, W.listOf #[va, vb, vc] n2) ∈ news → DatIn news va ta.dat → DatIn news vb tb.dat → DatIn news vc tc.dat → P (.ref a)) : ∀ v, DatIn news v (T.three row w h x y ta tb tc).dat → P v := by
  refine d7_k fun a n l n2 t1 t2 t3 t4 t5 vs z hm hl hd hz => ?_
  cases hz
  obtain _ | ⟨h1, hd⟩ := hd
  obtain _ | ⟨h2, hd⟩ := hd
  obtain _ | ⟨h3, hd⟩ := hd
  cases hd
  exact kk _ _ _ _ _ _ _ _ _ _ _ _ hm hl h1 h2 h3
theorem reoC {h₀ h : Heap} {L : Addr} {a b c : Addr × Obj} {n r : Led} (N : News h₀ L h (n ++ (a :: b :: c :: r))) : News h₀ L h (a :: b :: c :: (n ++ r)) := by
  intro p hp
  refine N p ?_
  simp only [List.mem_cons, List.mem_append] at hp ⊢
  grind only
theorem off3_app {I C D : Addr} {oI oC oD : Obj} {new r : Led} (h : Apart new ((I, oI) :: (C, oC) :: (D, oD) :: r)) (o : LCg.Off3 I C D r) : LCg.Off3 I C D (new ++ r) := LCg.Off3.of fun p hp => by
  rcases List.mem_append.mp hp with z | z
  · exact ⟨h p z _ (.head _), h p z _ (.tail _ (.head _)), h p z _ (.tail _ (.tail _ (.head _)))⟩
  · exact o.mem p z
theorem sub3 {a b c : Addr × Obj} {r : Led} : ∀ p ∈ r, p ∈ a :: b :: c :: r := fun _ h => .tail _ (.tail _ (.tail _ h))
theorem subA {n r : Led} : ∀ p ∈ r, p ∈ n ++ r := fun _ h => List.mem_append.mpr (.inr h)
theorem Apart.drop3 {a b c : Addr × Obj} {new R r : Led} (h : Apart new (a :: b :: c :: R)) (hr : ∀ p ∈ r, p ∈ R) : Apart new r := h.sub fun p hp => ⟨p.2, .tail _ (.tail _ (.tail _ (hr p hp)))⟩
def num (n : Int) : Prop := 0 ≤ n ∧ n < 100
/-- all numbers are below a hundred -/
def T.Nums : T → Prop
  | .pane w h x y n => num w ∧ num h ∧ num x ∧ num y ∧ num n
  | .two _ w h x y a b => num w ∧ num h ∧ num x ∧ num y ∧ a.Nums ∧ b.Nums
  | .three _ w h x y a b c => num w ∧ num h ∧ num x ∧ num y ∧ a.Nums ∧ b.Nums ∧ c.Nums
def opn (row : Bool) : UInt8 := if row then 123 else 91
def cls (row : Bool) : UInt8 := if row then 125 else 93
def hdT (w h x y : Int) : List UInt8 := dec w ++ [120] ++ dec h ++ [44] ++ dec x ++ [44] ++ dec y
/-- the text of a tree -/
def T.body : T → List UInt8
  | .pane w h x y n => hdT w h x y ++ [44] ++ dec n
  | .two row w h x y a b => hdT w h x y ++ [opn row] ++ (a.body ++ [44] ++ b.body) ++ [cls row]
  | .three row w h x y a b c => hdT w h x y ++ [opn row] ++ (a.body ++ [44] ++ b.body ++ [44] ++ c.body) ++ [cls row]
theorem dec_len (n : Int) : (dec n).length ≤ 2 := by
  unfold dec
  split <;> simp
def T.leafs : T → Nat
  | .pane .. => 1
  | .two _ _ _ _ _ a b => 1 + a.leafs + b.leafs
  | .three _ _ _ _ _ a b c => 1 + a.leafs + b.leafs + c.leafs
theorem hdT_len (w h x y : Int) : (hdT w h x y).length ≤ 11 := by
  unfold hdT
  have := dec_len w; have := dec_len h; have := dec_len x; have := dec_len y
  simp only [List.length_append, List.length_cons, List.length_nil]
  omega
theorem body_len (t : T) : t.body.length ≤ 20 * t.leafs := by
  induction t with
  | pane w h x y n =>
    have := hdT_len w h x y
    have := dec_len n
    simp only [T.body, T.leafs, List.length_append, List.length_cons, List.length_nil]
    omega
  | two row w h x y a b ia ib =>
    have := hdT_len w h x y
    simp only [T.body, T.leafs, List.length_append, List.length_cons, List.length_nil]
    omega
  | three row w h x y a b c ia ib ic =>
    have := hdT_len w h x y
    simp only [T.body, T.leafs, List.length_append, List.length_cons, List.length_nil]
    omega
def Le (l : List UInt8) (n : Nat) : Prop := l.length ≤ n
theorem Le.app {a b : List UInt8} {n m : Nat} (h1 : Le a n) (h2 : Le b m) : Le (a ++ b) (n + m) := by
  unfold Le at *
  rw [List.length_append]
  omega
theorem Le.dec (n : Int) : Le (dec n) 2 := dec_len n
theorem Le.one (c : UInt8) : Le [c] 1 := Nat.le_refl 1
theorem Le.body {t : T} (h : t.leafs ≤ 40) : Le t.body 800 := by
  have := body_len t
  unfold Le
  omega
theorem Le.pair {a b : List UInt8} {n m : Nat} (h1 : Le a n) (h2 : Le b m) (hz : n + m ≤ 10000) : a.length + b.length ≤ 10000 := by
  unfold Le at *
  omega
theorem Le.trip {a b c : List UInt8} {n m k : Nat} (h1 : Le a n) (h2 : Le b m) (h3 : Le c k) (hz : n + m + k ≤ 10000) : a.length + b.length + c.length ≤ 10000 := by
  unfold Le at *
  omega
section

variable {prog : Program} {w : World} {A : Around} {E : Value → Shared → Prop} {s : Shared} {h₀ : Heap} {L a : Addr} {news : Led}
theorem bytes_add_L {b c : List UInt8} {n m : Nat} {t u : Tok} {Q : Value → Shared → Prop} (h1 : Le b n) (h2 : Le c m) (hz : n + m ≤ 100000) (h : ∀ t' k, Q (.bytes (b ++ c).toArray t') { s with toks := k }) :
    wpAny (model prog w) A (binaryOp .Add (.bytes b.toArray t) (.bytes c.toArray u)) Q E s :=
  bytes_add_K (by rw [List.size_toArray, List.size_toArray]; unfold Le at *; omega) rfl h
theorem t_item {value slice : PySem.Expr} {vs : Array Value} {n : Nat} {k : Int} {t : Tok} {j : Nat} {v : Value} {Q : Value → Shared → Prop} (N : News h₀ L s.heap news) (hm : (a, ({ cls := .type "tuple", data := .seq vs n } : Obj)) ∈ news) (h0 : -(2 ^ 63) ≤ k) (h1 : k < 2 ^ 63) (hj : seqIndex? k vs.size = some j) (hx : vs.toList[j]? = some v)
    (h : Q v s) (hs : subscripted slice false (.ref a) (.int k t) = operate [.ref a, .int k t] (getItem (.ref a) (.int k t)) := by with_unfolding_all rfl) : wpAny (model prog w) A (subscriptTail value slice (.ref a) (.int k t)) Q E s := by
  have ht : IsTup s.heap a vs := ⟨_, N.get hm, rfl, _, rfl⟩
  exact tail_any ht.typeIs slot_tuple_getitem.lookup (getItem_tuple ht h0 h1 hj (by simpa using hx) h) hs
end
theorem memIn {h₀ h : Heap} {L : Addr} {led : Led} {p : Addr × Obj} (_N : News h₀ L h led) (hm : p ∈ led) : p ∈ led := hm
end Mine

namespace Mine
local macro_rules | `(tactic| omega) => `(tactic| lia)
theorem words_J1 : True := by
  k_with_none
  trivial
section
open PyProof.V PySem.Builtin
theorem slot_join : Slot "bytes" "join" "bytes.join" :=
  .of (owner := "bytes") (n := "join") (by rw [typeLookup_type, builtinLookup_eq_fast]; kernel_rfl) (by decide +kernel) (by decide +kernel) (by decide +kernel) (by first | exact .inl (by decide +kernel) | exact .inr (by decide +kernel)) (by rw [isSubtype_type]; kernel_rfl)
theorem type_join : typeOf (.builtin "bytes.join") = pure (.type "method_descriptor") := by show builtinType _ = _; rw [builtinType_eq_fast]; kernel_rfl
theorem entry_join : entryFor table "bytes.join" = some Builtin.«bytes.join» := entryFor_of_tree (by kernel_rfl)
theorem args_join (a b : Value) : argsOk "bytes.join" ⟨[a, b], []⟩ := by unfold argsOk; kernel_rfl
theorem take_eq {id : String} {b : Array UInt8} {t : Tok} : Bytes.takeBufferQuiet? id (.bytes b t) 0 = pure (some (b, none)) := by
  unfold Bytes.takeBufferQuiet? Bytes.takeBuffer?
  rw [KBy.special_eq KBy.look_buffer, KBy.own_buffer]
  have e : ((0 : Int) == Bytes.fullReadOnly) = false := by decide
  rw [e, KBy.buffer_eq]
  rfl
theorem wpAny_forIn_l {M : Model} {A : Around} {E : Value → Shared → Prop} {s : Shared} {α β : Type} (f : α → β → Sem (ForInStep β)) (I : List α → β → Prop) (Q : β → Shared → Prop)
    (hstep : ∀ x r b, I (x :: r) b → wpAny M A (f x b) (fun y s' => s' = s ∧ ∃ b', y = .yield b' ∧ I r b') E s) (hend : ∀ b, I [] b → Q b s) : ∀ (l : List α) (b : β), I l b → wpAny M A (forIn l b f) Q E s := by
  intro l
  induction l with
  | nil =>
    intro b h
    rw [List.forIn_nil]
    exact wpAny_pure (hend b h)
  | cons x r ih =>
    intro b h
    rw [List.forIn_cons]
    refine wpAny_bind (wpAny_mono (hstep x r b h) (fun y s' hy => ?_) fun _ _ e => e)
    obtain ⟨rfl, b', rfl, h'⟩ := hy
    exact ih b' h'
theorem wpAny_of_eqv {M : Model} {A : Around} {E : Value → Shared → Prop} {s : Shared} {α : Type} {x y : Sem α} {Q : α → Shared → Prop} (e : x = y) (h : wpAny M A y Q E s) : wpAny M A x Q E s := e ▸ h
theorem matchOther {α : Type} (items : Array Value) (f : Value → α) (g : Array Value → α) (h : items.size ≠ 1) : Bytes.joinM.match_1 (fun _ => α) items f g = g items := by
  obtain ⟨l⟩ := items
  match l with
  | [] => rfl
  | [x] => exact absurd rfl h
  | x :: y :: r => rfl
abbrev bv (p : Array UInt8 × Tok) : Value := .bytes p.1 p.2
theorem any_pairs : ∀ l : List (Array UInt8 × Tok), ((l.map fun p => (bv p, (none : Option Value))).any fun x => x.fst.onHeap) = false := by
  intro l
  induction l with
  | nil => rfl
  | cons p r ih =>
    simp only [List.map_cons, List.any_cons, ih]
    rfl
theorem letGo_pairs {M : Model} {A : Around} {E : Value → Shared → Prop} {s : Shared} {Q : Unit → Shared → Prop} (hQ : Q () s) : ∀ (bs : List (Array UInt8 × Tok)) (keep : List Value), wpAny M A (Bytes.joinLetGo (bs.map fun p => (bv p, none)) keep) Q E s := by
  intro bs
  induction bs with
  | nil => exact fun _ => wpAny_pure hQ
  | cons p r ih =>
    intro keep
    rw [List.map_cons]
    unfold Bytes.joinLetGo
    dsimp only
    refine wpAny_bind ?_
    unfold letGo
    refine wpAny_bind (wpAny_holding (wpAny_point ?_))
    exact wpAny_pure (ih keep)
section
variable {M : Model} {A : Around} {E : Value → Shared → Prop} {s : Shared} {sep : Array UInt8} {t : Tok} {a : Addr} {bs : List (Array UInt8 × Tok)} {o : Obj} {n : Nat}
theorem wp_join {R : PySem.Fin → Shared → Prop} (ho : s.heap.get? a = some o) (hc : o.cls = .type "list") (hd : o.data = .seq (bs.map bv).toArray n) (h1 : bs.length ≠ 1) {d : Array UInt8} (e : Bytes.joined sep (bs.map (·.1)) = d) (hsz : d.size ≤ 16777216) (hsz2 : (bs.map (·.1)).toArray.foldl (fun x1 x2 => x1 + x2.size) (sep.size * (bs.length - 1)) ≤ 16777216)
    (h : ∀ tk, R (.done (.ret (.bytes d tk))) { s with toks := s.toks + 1 }) : wpAny M A (Builtin.«bytes.join» ⟨[.bytes sep t, .ref a], []⟩) R E s := by
  show wpAny _ _ (Bytes.joinM .bytes ⟨[.bytes sep t, .ref a], []⟩) _ _ s
  unfold Bytes.joinM
  have hk : (Bytes.Kind.bytes == Bytes.Kind.bytes) = true := rfl
  have hk2 : (Bytes.Kind.bytes == Bytes.Kind.bytearray) = false := rfl
  have hT : s.TypeIs (.ref a) "list" := ⟨_, ho, hc⟩
  dsimp only
  refine wpAny_bind (wpAny_of_eq (a := (Value.bytes sep t, Value.ref a)) (by rfl) ?_)
  rw [if_pos hk]
  dsimp only
  unfold Bytes.joinItems
  refine wpAny_bind (wpAny_bind (wpAny_typeOf hT ?_))
  rw [if_pos (by decide)]
  refine wpAny_pure ?_
  refine wpAny_bind (wpAny_seqItems ho hd ?_)
  dsimp only
  rw [if_pos hk]
  have hsize : ((bs.map bv).toArray).size = bs.length := by simp
  refine wpAny_of_eqv (matchOther _ _ _ (by rw [hsize]; exact h1)) ?_
  rw [hsize]
  refine wpAny_bind ?_
  simp only [Std.Legacy.Range.forIn_eq_forIn_range', Std.Legacy.Range.size, Nat.sub_zero, Nat.add_sub_cancel, Nat.div_one]
  refine wpAny_forIn_l _ (fun rest b => ∃ k, k ≤ bs.length ∧ rest = List.range' k (bs.length - k) ∧ b = (((bs.take k).map (·.1)).toArray, (bs.take k).map fun p => (bv p, none))) _ ?_ ?_ _ _ ⟨0, Nat.zero_le _, rfl, rfl⟩
  · rintro x r b ⟨k, hkl, hr, rfl⟩
    have hlt : k < bs.length := by
      rcases Nat.lt_or_ge k bs.length with h | h
      · exact h
      · rw [Nat.sub_eq_zero_of_le h] at hr
        cases hr
    obtain ⟨j, hj⟩ : ∃ j, bs.length - k = j + 1 := ⟨bs.length - k - 1, by omega⟩
    rw [hj, List.range'_succ] at hr
    obtain ⟨rfl, rfl⟩ := List.cons.inj hr
    refine wpAny_bind (wpAny_seqItems ho hd ?_)
    dsimp only
    rw [if_neg (by rw [hk2, Bool.false_or, any_pairs]; exact Bool.false_ne_true)]
    have hx : (List.map bv bs).toArray.getD x .none = bv bs[x] := by simp [Array.getD, hlt]
    rw [hx]
    refine wpAny_bind (wpAny_holding (wpAny_of_eq take_eq ?_))
    dsimp only
    refine wpAny_bind (wpAny_seqItems ho hd ?_)
    dsimp only
    rw [hsize, if_neg (by simp)]
    refine wpAny_pure ⟨rfl, _, rfl, x + 1, hlt, by congr 1; omega, ?_⟩
    have e2 : bs.take (x + 1) = bs.take x ++ [bs[x]] := by rw [List.take_add_one, List.getElem?_eq_getElem hlt]; rfl
    rw [e2, List.map_append, List.map_append]
    simp [bv]
  · rintro b ⟨k, hkl, hr, rfl⟩
    have hk3 : k = bs.length := by
      rcases Nat.lt_or_ge k bs.length with h | h
      · obtain ⟨j, hj⟩ : ∃ j, bs.length - k = j + 1 := ⟨bs.length - k - 1, by omega⟩
        rw [hj, List.range'_succ] at hr
        cases hr
      · exact Nat.le_antisymm hkl h
    subst hk3
    rw [List.take_length]
    refine wpAny_bind (wpAny_of_eq (a := sep) (by rfl) ?_)
    dsimp only
    rw [if_neg ?tl, e]
    case tl =>
      rw [KBy.tooLong_not (by simpa using hsz2)]
      exact Bool.false_ne_true
    refine wpAny_bind (wpAny_mkBytes ?_ (by rw [sizeLine_eq]; exact hsz))
    refine wpAny_bind (wpAny_holding (wpAny_point ?_))
    refine wpAny_bind (letGo_pairs ?_ bs _)
    exact wpAny_pure (h _)
end
section
variable {prog : Program} {w : World} {A : Around} {E : Value → Shared → Prop} {s : Shared} {h₀ : Heap} {L a : Addr} {news : Led} {sep : Array UInt8} {t : Tok} {bs : List (Array UInt8 × Tok)} {n : Nat} {d : Array UInt8}
theorem join_K {Q : Value → Shared → Prop} (N : News h₀ L s.heap news) (hm : (a, ({ cls := .type "list", data := .seq (bs.map bv).toArray n } : Obj)) ∈ news) (h1 : bs.length ≠ 1) (e : Bytes.joined sep (bs.map (·.1)) = d) (hsz : d.size ≤ 16777216)
    (hsz2 : (bs.map (·.1)).toArray.foldl (fun x1 x2 => x1 + x2.size) (sep.size * (bs.length - 1)) ≤ 16777216) (h : ∀ t' k, Q (.bytes d t') { s with toks := k }) : wpAny (model prog w) A (call (.builtin "bytes.join") [.bytes sep t, .ref a]) Q E s :=
  wpAny_call_entry slot_join (typeIs_bytes _ _ _) entry_join (wp_join (N _ hm).1 rfl rfl h1 e hsz hsz2 fun tk => ⟨_, rfl, h tk _⟩) (args_join _ _)
theorem join_method {M : Model} {b : Array UInt8} {pl : Sem Bool} {Q : Value × List Value → Shared → Prop} (h : Q (.builtin "bytes.join", [.bytes b t]) s) : wpAny M A (getMethod (.bytes b t) "join" pl) Q E s := by
  with_reducible exact KBd.method_of (.bytes b t) (typeIs_bytes _ _ _) slot_join type_join KBd.noRef h
theorem join0 {Q : Value → Shared → Prop} (N : News h₀ L s.heap news) (hm : (a, ({ cls := .type "list", data := .seq #[] n } : Obj)) ∈ news) (h : ∀ t' k, Q (.bytes ([] : List UInt8).toArray t') { s with toks := k }) :
    wpAny (model prog w) A (call (.builtin "bytes.join") [.bytes #[44] t, .ref a]) Q E s := join_K (bs := []) N hm (by decide) rfl (Nat.zero_le _) (by decide) h
theorem join2 {b c : List UInt8} {tb tc : Tok} {Q : Value → Shared → Prop} (N : News h₀ L s.heap news) (hm : (a, ({ cls := .type "list", data := .seq #[.bytes b.toArray tb, .bytes c.toArray tc] n } : Obj)) ∈ news) (hz : b.length + c.length ≤ 10000)
    (h : ∀ t' k, Q (.bytes (b ++ [44] ++ c).toArray t') { s with toks := k }) : wpAny (model prog w) A (call (.builtin "bytes.join") [.bytes #[44] t, .ref a]) Q E s := by
  refine join_K (bs := [(b.toArray, tb), (c.toArray, tc)]) (d := (b ++ [44] ++ c).toArray) N hm (by simp) (by simp [Bytes.joined]) ?_ ?_ h
  · simp only [List.size_toArray, List.length_append, List.length_cons, List.length_nil]
    omega
  · simp only [List.map_cons, List.map_nil, List.foldl_toArray, List.foldl_cons, List.foldl_nil, List.size_toArray, List.length_cons, List.length_nil]
    show 1 * (2 - 1) + b.length + c.length ≤ 16777216
    omega
theorem join3 {b c e : List UInt8} {tb tc te : Tok} {Q : Value → Shared → Prop} (N : News h₀ L s.heap news) (hm : (a, ({ cls := .type "list", data := .seq #[.bytes b.toArray tb, .bytes c.toArray tc, .bytes e.toArray te] n } : Obj)) ∈ news) (hz : b.length + c.length + e.length ≤ 10000)
    (h : ∀ t' k, Q (.bytes (b ++ [44] ++ c ++ [44] ++ e).toArray t') { s with toks := k }) : wpAny (model prog w) A (call (.builtin "bytes.join") [.bytes #[44] t, .ref a]) Q E s := by
  refine join_K (bs := [(b.toArray, tb), (c.toArray, tc), (e.toArray, te)]) (d := (b ++ [44] ++ c ++ [44] ++ e).toArray) N hm (by simp) (by simp [Bytes.joined]) ?_ ?_ h
  · simp only [List.size_toArray, List.length_append, List.length_cons, List.length_nil]
    omega
  · simp only [List.map_cons, List.map_nil, List.foldl_toArray, List.foldl_cons, List.foldl_nil, List.size_toArray, List.length_cons, List.length_nil]
    show 1 * (3 - 1) + b.length + c.length + e.length ≤ 16777216
    omega
end
end
end Mine

namespace Mine
local macro_rules | `(tactic| omega) => `(tactic| lia)
theorem words_L70 : True := by
  k_with_none
  k_with "exec If" => (k_here; (with_reducible refine wpAny_If ?_); (refine fold_Q1 ?_; intro qk8w))
  k_with "exec Assign" => (k_here; (refine wpAny_Assign_Name ?_); (refine fold_Q1 ?_; intro qk8w))
  k_with "exec Return some" => (k_here; (refine wpAny_Return_some ?_); (refine fold_Q1 ?_; intro qk8w))
  k_with "eval Name" => (k_here; name_kind "globalImplicit"; (fail_if_success (with_reducible show wpAny _ _ (eval _ (compEnvC _ _ _ _)) _ _ _)); k_dflt (first | (name_is_builtin; refine' nameX_B ?Fw9 ?Xw9 ?Tw9 ?ew9 ?vw9 ?nw9 ?_ ?aw9 ?bw9; (case Fw9 => k_asm); (case Xw9 => k_asm); (case Tw9 => k_asm); (case aw9 => rfl); (case bw9 => rfl); (case ew9 => k_is); (case vw9 => boot_fast); (case nw9 => decide); k_whole) | (refine' nameX_K ?Fw9 ?Xw9 ?Tw9 ?ew9 ?_ ?aw9 ?bw9; (case Fw9 => k_asm); (case Xw9 => k_asm); (case Tw9 => k_asm); (case aw9 => rfl); (case bw9 => rfl); (case ew9 => k_is); k_whole)))
  k_with "eval Name" => (k_here; name_kind "local"; (fail_if_success (with_reducible show wpAny _ _ (eval _ (compEnvC _ _ _ _)) _ _ _)); k_dflt (refine' nameX_L ?Fw9 ?vw9 ?_ ?aw9 ?bw9; (case Fw9 => k_asm); (case aw9 => rfl); (case bw9 => rfl); (case vw9 => rfl); k_whole))
  k_with "eval Attribute Name" => (k_here; k_dflt (refine' own_L ?Fw9 ?Xw9 ?vw9 ?Nw9 ?iw9 ?jw9 ?k4w9 ?k5w9 ?k6w9 ?k7w9 ?k8w9 ?k9w9 ?_ ?aw9 ?bw9 ?cw9; (case Fw9 => k_asm); (case Xw9 => k_asm); (case aw9 => rfl); (case bw9 => rfl); (case cw9 => exact rfl); (case vw9 => rfl); (case Nw9 => k_asm); (case iw9 => k_mem); (case jw9 => k_mem); (case k4w9 => k_is); (case k5w9 => k_is); (case k6w9 => k_is); (case k7w9 => k_is); (case k8w9 => k_get); (case k9w9 => k_handed); k_whole))
  k_with "getAttr ref" => (k_here; k_dflt (refine' get_own ?k1w9 ?k2w9 ?k3w9 ?k4w9 ?k5w9 ?k6w9 ?k7w9 ?k8w9 ?k9w9 ?_; (case k1w9 => k_asm); (case k2w9 => k_asm); (case k3w9 => k_inst); (case k4w9 => k_is); (case k5w9 => k_is); (case k6w9 => k_is); (case k7w9 => k_is); (case k8w9 => k_get); (case k9w9 => k_handed); k_whole))
  k_with "ite" => (first | with_reducible refine ite_tt ?_ | with_reducible refine ite_ff ?_ | with_reducible refine ite_True_then ?_)
  k_with "WhlIf" => (first | (refine WhlIf.yes (by (simp only [decide_eq_true_eq]; omega)) ?_) | (refine WhlIf.no (by (simp only [decide_eq_false_iff_not]; omega)) ?_))
  k_with "subscriptTail" => (k_here; (with_reducible show wpAny _ _ (subscriptTail _ (PySem.Expr.Slice _ _ none _) (Value.bytes (List.toArray _) _) (Value.ref _)) _ _ _); (with_reducible rename Fr _ _ _ _ => F'w); (with_reducible rename News _ _ _ _ => N'w); first | (refine bslice_ij (s := ⟨_, _, _, _, _⟩) F'w N'w (by omega) (by omega) (by omega) (by first | with_reducible assumption | exact rfl) ?_; intro h'w t'w k'w F'w N'w; (try k_sweep)) | (refine bslice_j (s := ⟨_, _, _, _, _⟩) F'w N'w (by omega) (by omega) (by first | with_reducible assumption | exact rfl) ?_; intro h'w t'w k'w F'w N'w; (try k_sweep)) | (refine bslice_i (s := ⟨_, _, _, _, _⟩) F'w N'w (by omega) (by omega) (by first | with_reducible assumption | exact rfl) ?_; intro h'w t'w k'w F'w N'w; (try k_sweep)))
  k_with "exec Raise some none" => (k_here; (with_reducible show wpAny _ _ (exec (Stmt.Raise (some (PySem.Expr.Call (PySem.Expr.Name _ _) [_] [] _)) none _) _) _ _ _); k_dflt (refine' Raise_bad ?Fw9 ?Xw9 ?Tw9 ?hw9 ?_ ?ew9 ?kw9 ?xw9; (case Fw9 => k_asm); (case Xw9 => k_asm); (case Tw9 => k_asm); (case hw9 => rfl); (case ew9 => rfl); (case kw9 => rfl); (case xw9 => rfl); k_whole))
  k_with "RaiseB" => (k_dflt (refine' raise_here ?Bw9 ?Fw9 ?Xw9 ?Nw9 ?Tw9 ?kw9 ?dw9 ?_; (case Bw9 => k_asm); (case Fw9 => k_asm); (case Xw9 => k_asm); (case Nw9 => k_asm); (case Tw9 => k_asm); (case kw9 => rfl); (case dw9 => ktr_room)); intro e9w dd9w tk9w k9w h9w R9w U9w)
  k_with "leaving ref" => (k_here; (refine' raise_next ?Kw9 ?Fw9 ?Rw9 ?Uw9 ?_; (case Rw9 => assumption); (case Kw9 => assumption); (case Uw9 => assumption); (case Fw9 => assumption)); intro h9w R9w U9w)
  k_with "compareOp NotIn bytes ref" => (k_here; k_dflt (refine' notin_signs ?Nw9 ?tw9 ?iw9 ?_; (case Nw9 => k_asm); (case tw9 => k_mem); (case iw9 => first | assumption | exact .cons .nil | exact .cons (.cons .nil) | exact .cons (.cons (.cons .nil))); k_whole))
  k_with "call ref" => (k_here; (with_reducible show wpAny _ _ (call (Value.ref _) _ _) _ _ _); (fail_if_success (with_reducible show wpAny _ _ (call (Value.ref 78) _ _) _ _ _)); (fail_if_success (with_reducible show wpAny _ _ (call (Value.ref 175) _ _) _ _ _)); refine stop_of ?_)
  k_with "UnrEnd" => (k_here; (refine' unr_keep ?Fw9 ?Nw9 ?ow9 ?_; (case Fw9 => assumption); (case Nw9 => k_asm); (case ow9 => exact fun p hp => Nat.ne_of_lt ((by assumption : ∀ p ∈ _, p.1 < _) p hp)); k_whole))
  k_with "exec While BoolOp" => (k_here; k_dflt (refine whl_start 100 ?_))
  k_with "execs cons" => (k_here; (try k_gentoks); (try (refine fold_Q ?_; intro qk9w ek9w)); (with_reducible refine wpAny_execs_cons ?_); (try dsimp only))
  k_with "storeName" => (k_here; k_dflt (refine' storeX_M ?Fw9 ?Nw9 ?_ ?aw9 ?bw9; (case Fw9 => k_asm); (case Nw9 => k_asm); (case aw9 => rfl); (case bw9 => rfl); k_whole; intro m9w h'w t9w F'w N'w; (try k_sweep); (try dsimp only)))
  k_with "storeName" => (k_here; (first | with_reducible refine tok_intA ?_ | with_reducible refine tok_intS ?_ | with_reducible refine tok_bytA ?_ | with_reducible refine tok_bytS ?_); intro t9w)
  k_with "call builtin:list.append" => (k_here; (first | with_reducible refine tok_appA ?_ | with_reducible refine tok_appS ?_); intro t9w)
  k_with "InvEndN" => (k_here; refine stop_of ?_)
  k_with "pyIter bytes" => (k_here; refine stop_of ?_)
  trivial
/-- the step of the sum -/
def stp (f c : Int) : Int := (f / 2 + f % 2 * 32768 + c) % 65536
def oInts (o : List UInt8) : List Int := o.map fun c => (c.toNat : Int)
def sum1 (o : List UInt8) : Int := (oInts o).foldl stp 0
theorem stp_rng (f c : Int) : 0 ≤ stp f c ∧ stp f c < 65536 := ⟨Int.emod_nonneg _ (by decide), Int.emod_lt_of_pos _ (by decide)⟩
theorem foldl_rng : ∀ (l : List Int) (f : Int), 0 ≤ f ∧ f < 65536 → 0 ≤ l.foldl stp f ∧ l.foldl stp f < 65536
  | [], _, h => h
  | _ :: l, f, _ => foldl_rng l _ (stp_rng f _)
theorem sum1_rng (o : List UInt8) : 0 ≤ sum1 o ∧ sum1 o < 65536 := foldl_rng _ _ ⟨Int.le_refl 0, by decide⟩
theorem stp_is (f c : Int) (h : 0 ≤ f) : Builtin.bitAnd (f.fdiv (2 ^ 1) + Builtin.bitAnd f 1 * 2 ^ 15 + c) 65535 = stp f c := by
  rw [bitAnd_m16, bitAnd_m1, Int.fdiv_eq_ediv_of_nonneg _ (by decide)]
  rfl
theorem pEnd {pre : List Int} {n c v : Int} (hc : c = pre.foldl stp 0) (hv : v = stp c n) : v = (pre ++ [n]).foldl stp 0 ∧ 0 ≤ v ∧ v < 65536 := by
  rw [List.foldl_append, ← hc, hv]
  exact ⟨rfl, stp_rng c n⟩
section
variable {w : World} {mean : ExcName → Option Value} {mg mb : Str → Option Value}
theorem c_sum (o : List UInt8) (t : Tok) (rest : Led) (ho : o.length ≤ 1000) : CT w mean mg mb 120 [.bytes o.toArray t] 5 rest (fun r n' => ∃ u, r = .int (sum1 o) u ∧ n' = rest) := by
  intro dp un gd cn cs a ccd cl outer A₀ base h₀ L m s Q E B F X N T hk hdp hun hQ
  refine wpAny_call ?_
  k_dflt ktr_enter
  rename Fr _ _ _ _ => lF9
  refine fold_m lF9 ?_
  clear lF9
  intro m9 lF9
  k_steps
  unfold Stop
  rename Fr _ _ _ _ => lF'
  rename News _ _ _ _ => lN'
  refine KStb.kst_bytes (σ := Int × Tok) (ks := oInts o) (len := o.length) (fun _ => rest) (fun c => [(Str.ofString "found", .int c.1 c.2)]) (fun _ => True) [Str.ofString "found"] (fun pre c => c.1 = pre.foldl stp 0 ∧ 0 ≤ c.1 ∧ c.1 < 65536) (0, _) ?b ?l ?h lF' lN' trivial (by exact List.forall_mem_cons.mpr ⟨(if_pos rfl).trans rfl, List.forall_mem_nil _⟩) ⟨rfl, Int.le_refl 0, (by decide : (0 : Int) < 65536)⟩ ?t ?d
  case b => rfl
  case l => simp [oInts]
  case h => rfl
  case t =>
    rintro ⟨c, ct⟩ pre post n t u h tk own hks hpl hn0 hn1 hoff _ ⟨hc, hc0, hc1⟩ kF kN
    dsimp only at hc hc0 hc1 kF kN
    have hb := bitAnd_m1 c
    have hb0 : 0 ≤ Builtin.bitAnd c 1 := by omega
    have hb1 : Builtin.bitAnd c 1 ≤ 1 := by omega
    k_steps
    have hv := stp_is c n hc0
    unfold Stop
    refine kst_end (⟨_, _⟩ : Int × Tok) (by assumption) (by assumption) (fun p hp => List.mem_append.mpr (.inl hp)) (fun p hp => List.mem_append.mpr (.inr hp)) rfl trivial (by exact List.forall_mem_cons.mpr ⟨(if_pos rfl).trans rfl, List.forall_mem_nil _⟩) ?hr ?hp
    case hr =>
      intro z h1 h2 h3
      have h9 : z ≠ Str.ofString "found" := h2 (Str.ofString "found", _) (.head _)
      refine (if_neg h9).trans ((if_neg h1).trans ((if_neg h9).trans (if_neg ?_)))
      rw [h3]
      exact Bool.false_ne_true
    case hp => exact pEnd hc hv
  case d =>
    rintro ⟨c, ct⟩ u h tk _ _ ⟨hc, hc0, hc1⟩ kF kN
    k_steps
    exact hQ _ _ _ _ (by assumption) (by assumption) ⟨_, congrArg (fun z => Value.int z _) hc, rfl⟩
end
end Mine

namespace Mine
local macro_rules | `(tactic| omega) => `(tactic| lia)
theorem words_L80 : True := by
  k_with_none
  k_with "exec If" => (k_here; (with_reducible refine wpAny_If ?_); (refine fold_Q1 ?_; intro qk8w))
  k_with "exec Assign" => (k_here; (refine wpAny_Assign_Name ?_); (refine fold_Q1 ?_; intro qk8w))
  k_with "exec Return some" => (k_here; (refine wpAny_Return_some ?_); (refine fold_Q1 ?_; intro qk8w))
  k_with "eval Name" => (k_here; name_kind "globalImplicit"; (fail_if_success (with_reducible show wpAny _ _ (eval _ (compEnvC _ _ _ _)) _ _ _)); k_dflt (first | (name_is_builtin; refine' nameX_B ?Fw9 ?Xw9 ?Tw9 ?ew9 ?vw9 ?nw9 ?_ ?aw9 ?bw9; (case Fw9 => k_asm); (case Xw9 => k_asm); (case Tw9 => k_asm); (case aw9 => rfl); (case bw9 => rfl); (case ew9 => k_is); (case vw9 => boot_fast); (case nw9 => decide); k_whole) | (refine' nameX_K ?Fw9 ?Xw9 ?Tw9 ?ew9 ?_ ?aw9 ?bw9; (case Fw9 => k_asm); (case Xw9 => k_asm); (case Tw9 => k_asm); (case aw9 => rfl); (case bw9 => rfl); (case ew9 => k_is); k_whole)))
  k_with "eval Name" => (k_here; name_kind "local"; (fail_if_success (with_reducible show wpAny _ _ (eval _ (compEnvC _ _ _ _)) _ _ _)); k_dflt (refine' nameX_L ?Fw9 ?vw9 ?_ ?aw9 ?bw9; (case Fw9 => k_asm); (case aw9 => rfl); (case bw9 => rfl); (case vw9 => rfl); k_whole))
  k_with "eval Attribute Name" => (k_here; k_dflt (refine' own_L ?Fw9 ?Xw9 ?vw9 ?Nw9 ?iw9 ?jw9 ?k4w9 ?k5w9 ?k6w9 ?k7w9 ?k8w9 ?k9w9 ?_ ?aw9 ?bw9 ?cw9; (case Fw9 => k_asm); (case Xw9 => k_asm); (case aw9 => rfl); (case bw9 => rfl); (case cw9 => exact rfl); (case vw9 => rfl); (case Nw9 => k_asm); (case iw9 => k_mem); (case jw9 => k_mem); (case k4w9 => k_is); (case k5w9 => k_is); (case k6w9 => k_is); (case k7w9 => k_is); (case k8w9 => k_get); (case k9w9 => k_handed); k_whole))
  k_with "getAttr ref" => (k_here; k_dflt (refine' get_own ?k1w9 ?k2w9 ?k3w9 ?k4w9 ?k5w9 ?k6w9 ?k7w9 ?k8w9 ?k9w9 ?_; (case k1w9 => k_asm); (case k2w9 => k_asm); (case k3w9 => k_inst); (case k4w9 => k_is); (case k5w9 => k_is); (case k6w9 => k_is); (case k7w9 => k_is); (case k8w9 => k_get); (case k9w9 => k_handed); k_whole))
  k_with "ite" => (first | with_reducible refine ite_tt ?_ | with_reducible refine ite_ff ?_ | with_reducible refine ite_True_then ?_)
  k_with "WhlIf" => (first | (refine WhlIf.yes (by (simp only [decide_eq_true_eq]; omega)) ?_) | (refine WhlIf.no (by (simp only [decide_eq_false_iff_not]; omega)) ?_))
  k_with "subscriptTail" => (k_here; (with_reducible show wpAny _ _ (subscriptTail _ (PySem.Expr.Slice _ _ none _) (Value.bytes (List.toArray _) _) (Value.ref _)) _ _ _); (with_reducible rename Fr _ _ _ _ => F'w); (with_reducible rename News _ _ _ _ => N'w); first | (refine bslice_ij (s := ⟨_, _, _, _, _⟩) F'w N'w (by omega) (by omega) (by omega) (by first | with_reducible assumption | exact rfl) ?_; intro h'w t'w k'w F'w N'w; (try k_sweep)) | (refine bslice_j (s := ⟨_, _, _, _, _⟩) F'w N'w (by omega) (by omega) (by first | with_reducible assumption | exact rfl) ?_; intro h'w t'w k'w F'w N'w; (try k_sweep)) | (refine bslice_i (s := ⟨_, _, _, _, _⟩) F'w N'w (by omega) (by omega) (by first | with_reducible assumption | exact rfl) ?_; intro h'w t'w k'w F'w N'w; (try k_sweep)))
  k_with "exec Raise some none" => (k_here; (with_reducible show wpAny _ _ (exec (Stmt.Raise (some (PySem.Expr.Call (PySem.Expr.Name _ _) [_] [] _)) none _) _) _ _ _); k_dflt (refine' Raise_bad ?Fw9 ?Xw9 ?Tw9 ?hw9 ?_ ?ew9 ?kw9 ?xw9; (case Fw9 => k_asm); (case Xw9 => k_asm); (case Tw9 => k_asm); (case hw9 => rfl); (case ew9 => rfl); (case kw9 => rfl); (case xw9 => rfl); k_whole))
  k_with "RaiseB" => (k_dflt (refine' raise_here ?Bw9 ?Fw9 ?Xw9 ?Nw9 ?Tw9 ?kw9 ?dw9 ?_; (case Bw9 => k_asm); (case Fw9 => k_asm); (case Xw9 => k_asm); (case Nw9 => k_asm); (case Tw9 => k_asm); (case kw9 => rfl); (case dw9 => ktr_room)); intro e9w dd9w tk9w k9w h9w R9w U9w)
  k_with "leaving ref" => (k_here; (refine' raise_next ?Kw9 ?Fw9 ?Rw9 ?Uw9 ?_; (case Rw9 => assumption); (case Kw9 => assumption); (case Uw9 => assumption); (case Fw9 => assumption)); intro h9w R9w U9w)
  k_with "compareOp NotIn bytes ref" => (k_here; k_dflt (refine' notin_signs ?Nw9 ?tw9 ?iw9 ?_; (case Nw9 => k_asm); (case tw9 => k_mem); (case iw9 => first | assumption | exact .cons .nil | exact .cons (.cons .nil) | exact .cons (.cons (.cons .nil))); k_whole))
  k_with "call ref" => (k_here; (with_reducible show wpAny _ _ (call (Value.ref _) _ _) _ _ _); (fail_if_success (with_reducible show wpAny _ _ (call (Value.ref 78) _ _) _ _ _)); (fail_if_success (with_reducible show wpAny _ _ (call (Value.ref 175) _ _) _ _ _)); refine stop_of ?_)
  k_with "UnrEnd" => (k_here; (refine' unr_keep ?Fw9 ?Nw9 ?ow9 ?_; (case Fw9 => assumption); (case Nw9 => k_asm); (case ow9 => exact fun p hp => Nat.ne_of_lt ((by assumption : ∀ p ∈ _, p.1 < _) p hp)); k_whole))
  k_with "exec While BoolOp" => (k_here; k_dflt (refine whl_start 100 ?_))
  k_with "execs cons" => (k_here; (try k_gentoks); (try (refine fold_Q ?_; intro qk9w ek9w)); (with_reducible refine wpAny_execs_cons ?_); (try dsimp only))
  k_with "storeName" => (k_here; k_dflt (refine' storeX_M ?Fw9 ?Nw9 ?_ ?aw9 ?bw9; (case Fw9 => k_asm); (case Nw9 => k_asm); (case aw9 => rfl); (case bw9 => rfl); k_whole; intro m9w h'w t9w F'w N'w; (try k_sweep); (try dsimp only)))
  k_with "storeName" => (k_here; (first | with_reducible refine tok_intA ?_ | with_reducible refine tok_intS ?_ | with_reducible refine tok_bytA ?_ | with_reducible refine tok_bytS ?_); intro t9w)
  k_with "call builtin:list.append" => (k_here; (first | with_reducible refine tok_appA ?_ | with_reducible refine tok_appS ?_); intro t9w)
  k_with "eval ListComp" => (k_here; k_dflt (refine ListComp_G (F₀ := by k_asm) (by rfl) (by decide) (by rfl) (by decide) (by rfl) ?_))
  k_with "subscriptTail" => (k_here; (with_reducible show wpAny _ _ (subscriptTail _ _ (Value.bytes _ _) (Value.int _ _)) _ _ _); refine stop_of ?_)
  k_with "call type:bytes" => (k_here; refine stop_of ?_)
  k_with "call builtin:bytes.join" => (k_here; refine stop_of ?_)
  trivial
def hexS : List UInt8 := [48, 49, 50, 51, 52, 53, 54, 55, 56, 57, 97, 98, 99, 100, 101, 102]
def hx (k : Int) : UInt8 := hexS.getD k.toNat 0
def hex4 (n : Int) : List UInt8 := [hx (n / 4096 % 16), hx (n / 256 % 16), hx (n / 16 % 16), hx (n / 1 % 16)]
theorem bitx {n d : Int} {k : Int} (e : (2 : Int) ^ k.toNat = d) (hd : 0 ≤ d) : Builtin.bitAnd (n.fdiv (2 ^ k.toNat)) 15 = n / d % 16 := by
  rw [e, bitAnd_m4, Int.fdiv_eq_ediv_of_nonneg _ hd]
theorem hex4_map (n : Int) : ([((hx (n / 4096 % 16)).toNat : Int), ((hx (n / 256 % 16)).toNat : Int), ((hx (n / 16 % 16)).toNat : Int), ((hx (n / 1 % 16)).toNat : Int)].map fun n => n.toNat.toUInt8) = hex4 n := by
  simp [hex4]
theorem hx_lt (k : Int) : 0 ≤ ((hx k).toNat : Int) ∧ ((hx k).toNat : Int) < 256 := by
  have := (hx k).toNat_lt
  omega
section
variable {prog : Program} {w : World} {A : Around} {E : Value → Shared → Prop} {s : Shared}
theorem hex_item {value slice : PySem.Expr} {i kk : Int} {t u : Tok} {Q : Value → Shared → Prop} (e : i = kk) (h0 : 0 ≤ kk) (h1 : kk < 16) (h : Q (.int ((hx kk).toNat : Int) s.toks) { s with toks := s.toks + 1 })
    (hs : subscripted slice false (.bytes hexS.toArray t) (.int i u) = operate [.bytes hexS.toArray t, .int i u] (getItem (.bytes hexS.toArray t) (.int i u)) := by with_unfolding_all rfl)
    (ht : ∀ r, letTemporaryGo value (.bytes hexS.toArray t) r = pure () := by intro _; with_unfolding_all rfl) : wpAny (model prog w) A (subscriptTail value slice (.bytes hexS.toArray t) (.int i u)) Q E s := by
  subst e
  exact bytes_item_K (by decide) h0 h1 rfl h hs ht
end
section
variable {w : World} {mean : ExcName → Option Value} {mg mb : Str → Option Value}
theorem c_hex (n : Int) (t : Tok) (h0 : 0 ≤ n) (h1 : n < 65536) (rest : Led) : CT w mean mg mb 125 [.int n t] 5 rest (fun r n' => ∃ u, r = .bytes (hex4 n).toArray u ∧ n' = rest) := by
  intro dp un gd cn cs a ccd cl outer A₀ base h₀ L m s Q E B F X N T hk hdp hun hQ
  refine wpAny_call ?_
  k_dflt (refine' code_defC ?k1 ?k2 ?k3 ?k4 ?k5 ?kA ?kF ?kK ?k6 ?k7 ?k8 ?k9 ?kB ?kD ?_ ?c2 ?c3 ?c4; (case kA => exact rfl); (case kF => exact rfl); (case kK => assumption); (case k1 => k_asm); (case k2 => k_asm); (case k3 => k_asm); (case k4 => k_asm); (case k5 => k_asm); (case k6 => k_is); (case k7 => k_is); (case k8 => ktr_room); (case k9 => exact BindsTo.of_eq rfl); (case kB => exact rfl); (case kD => decide +kernel); (case c2 => exact rfl); (case c3 => exact rfl); (case c4 => exact rfl); k_whole; intro g' L' h' tk' cells' FG' F' N' Y' B' X' T' l1; (try k_lt l1); k_cells Y'; (try simp only [List.cons_append, List.nil_append] at N'); (try dsimp only); (try k_lift B'); (try k_fold))
  k_steps
  rename News _ _ _ _ => lN'
  refine ⟨_, _, _, _, by k_asm, lN', by exact ⟨_, .head _⟩, ?sz, IterG.tuple rfl lN' ⟨_, .head _⟩, ?_⟩
  case sz => rw [sizeLine_eq]; exact Nat.le_of_ble_eq_true rfl
  rintro s₂ ⟨g, rfl⟩
  refine LCg.CompRest.succ (k := 3) ?_
  rintro v' I' oI' C' oC' D' m' h' tk' E' hv hC' hx' F' N' off' ne'
  lcg_open hv
  k_steps
  unfold Stop
  k_dflt (refine hex_item (kk := n / 4096 % 16) ?e1 ?e2 ?e3 ?_)
  case e1 => exact bitx (by decide) (by decide)
  case e2 => exact Int.emod_nonneg _ (by decide)
  case e3 => exact Int.emod_lt_of_pos _ (by decide)
  refine cEnd (by k_asm) (by k_asm) (by assumption) ⟨_, .head _⟩ ?_
  refine LCg.CompRest.succ (k := 2) ?_
  rintro v' I' oI' C' oC' D' m' h' tk' E' hv hC' hx' F' N' off' ne'
  lcg_open hv
  k_steps
  unfold Stop
  k_dflt (refine hex_item (kk := n / 256 % 16) ?e1 ?e2 ?e3 ?_)
  case e1 => exact bitx (by decide) (by decide)
  case e2 => exact Int.emod_nonneg _ (by decide)
  case e3 => exact Int.emod_lt_of_pos _ (by decide)
  refine cEnd (by k_asm) (by k_asm) (by assumption) ⟨_, .head _⟩ ?_
  refine LCg.CompRest.succ (k := 1) ?_
  rintro v' I' oI' C' oC' D' m' h' tk' E' hv hC' hx' F' N' off' ne'
  lcg_open hv
  k_steps
  unfold Stop
  k_dflt (refine hex_item (kk := n / 16 % 16) ?e1 ?e2 ?e3 ?_)
  case e1 => exact bitx (by decide) (by decide)
  case e2 => exact Int.emod_nonneg _ (by decide)
  case e3 => exact Int.emod_lt_of_pos _ (by decide)
  refine cEnd (by k_asm) (by k_asm) (by assumption) ⟨_, .head _⟩ ?_
  refine LCg.CompRest.succ (k := 0) ?_
  rintro v' I' oI' C' oC' D' m' h' tk' E' hv hC' hx' F' N' off' ne'
  lcg_open hv
  k_steps
  unfold Stop
  k_dflt (refine hex_item (kk := n / 1 % 16) ?e1 ?e2 ?e3 ?_)
  case e1 => exact bitx (by decide) (by decide)
  case e2 => exact Int.emod_nonneg _ (by decide)
  case e3 => exact Int.emod_lt_of_pos _ (by decide)
  refine cEnd (by k_asm) (by k_asm) (by assumption) ⟨_, .head _⟩ ?_
  refine LCg.CompRest.zero ?_
  intro D' h' tk' F' N' o1'
  dsimp only
  k_steps
  unfold Stop
  k_dflt (refine bytesInts (bs := hex4 n) (by k_asm) (by k_asm) (.head _) (.cons _ _ (.cons _ _ (.cons _ _ (.cons _ _ .nil)))) ?hr (Nat.le_of_ble_eq_true rfl) (by rfl) ?e ?_)
  case hr => exact List.forall_mem_cons.mpr ⟨hx_lt _, List.forall_mem_cons.mpr ⟨hx_lt _, List.forall_mem_cons.mpr ⟨hx_lt _, List.forall_mem_cons.mpr ⟨hx_lt _, List.forall_mem_nil _⟩⟩⟩⟩
  case e => exact hex4_map n
  intro h' t' k' F' N'
  k_steps
  exact hQ _ rest _ _ (by k_asm) (News.subs (by k_asm) (by kqd_sub)) ⟨_, rfl, rfl⟩
end
end Mine

namespace Mine
local macro_rules | `(tactic| omega) => `(tactic| lia)
theorem words_L90 : True := by
  k_with_none
  k_with "exec If" => (k_here; (with_reducible refine wpAny_If ?_); (refine fold_Q1 ?_; intro qk8w))
  k_with "exec Assign" => (k_here; (refine wpAny_Assign_Name ?_); (refine fold_Q1 ?_; intro qk8w))
  k_with "exec Return some" => (k_here; (refine wpAny_Return_some ?_); (refine fold_Q1 ?_; intro qk8w))
  k_with "eval Name" => (k_here; name_kind "globalImplicit"; (fail_if_success (with_reducible show wpAny _ _ (eval _ (compEnvC _ _ _ _)) _ _ _)); k_dflt (first | (name_is_builtin; refine' nameX_B ?Fw9 ?Xw9 ?Tw9 ?ew9 ?vw9 ?nw9 ?_ ?aw9 ?bw9; (case Fw9 => k_asm); (case Xw9 => k_asm); (case Tw9 => k_asm); (case aw9 => rfl); (case bw9 => rfl); (case ew9 => k_is); (case vw9 => boot_fast); (case nw9 => decide); k_whole) | (refine' nameX_K ?Fw9 ?Xw9 ?Tw9 ?ew9 ?_ ?aw9 ?bw9; (case Fw9 => k_asm); (case Xw9 => k_asm); (case Tw9 => k_asm); (case aw9 => rfl); (case bw9 => rfl); (case ew9 => k_is); k_whole)))
  k_with "eval Name" => (k_here; name_kind "local"; (fail_if_success (with_reducible show wpAny _ _ (eval _ (compEnvC _ _ _ _)) _ _ _)); k_dflt (refine' nameX_L ?Fw9 ?vw9 ?_ ?aw9 ?bw9; (case Fw9 => k_asm); (case aw9 => rfl); (case bw9 => rfl); (case vw9 => rfl); k_whole))
  k_with "eval Attribute Name" => (k_here; k_dflt (refine' own_L ?Fw9 ?Xw9 ?vw9 ?Nw9 ?iw9 ?jw9 ?k4w9 ?k5w9 ?k6w9 ?k7w9 ?k8w9 ?k9w9 ?_ ?aw9 ?bw9 ?cw9; (case Fw9 => k_asm); (case Xw9 => k_asm); (case aw9 => rfl); (case bw9 => rfl); (case cw9 => exact rfl); (case vw9 => rfl); (case Nw9 => k_asm); (case iw9 => k_mem); (case jw9 => k_mem); (case k4w9 => k_is); (case k5w9 => k_is); (case k6w9 => k_is); (case k7w9 => k_is); (case k8w9 => k_get); (case k9w9 => k_handed); k_whole))
  k_with "getAttr ref" => (k_here; k_dflt (refine' get_own ?k1w9 ?k2w9 ?k3w9 ?k4w9 ?k5w9 ?k6w9 ?k7w9 ?k8w9 ?k9w9 ?_; (case k1w9 => k_asm); (case k2w9 => k_asm); (case k3w9 => k_inst); (case k4w9 => k_is); (case k5w9 => k_is); (case k6w9 => k_is); (case k7w9 => k_is); (case k8w9 => k_get); (case k9w9 => k_handed); k_whole))
  k_with "ite" => (first | with_reducible refine ite_tt ?_ | with_reducible refine ite_ff ?_ | with_reducible refine ite_True_then ?_)
  k_with "WhlIf" => (first | (refine WhlIf.yes (by (simp only [decide_eq_true_eq]; omega)) ?_) | (refine WhlIf.no (by (simp only [decide_eq_false_iff_not]; omega)) ?_))
  k_with "subscriptTail" => (k_here; (with_reducible show wpAny _ _ (subscriptTail _ (PySem.Expr.Slice _ _ none _) (Value.bytes (List.toArray _) _) (Value.ref _)) _ _ _); (with_reducible rename Fr _ _ _ _ => F'w); (with_reducible rename News _ _ _ _ => N'w); first | (refine bslice_ij (s := ⟨_, _, _, _, _⟩) F'w N'w (by omega) (by omega) (by omega) (by first | with_reducible assumption | exact rfl) ?_; intro h'w t'w k'w F'w N'w; (try k_sweep)) | (refine bslice_j (s := ⟨_, _, _, _, _⟩) F'w N'w (by omega) (by omega) (by first | with_reducible assumption | exact rfl) ?_; intro h'w t'w k'w F'w N'w; (try k_sweep)) | (refine bslice_i (s := ⟨_, _, _, _, _⟩) F'w N'w (by omega) (by omega) (by first | with_reducible assumption | exact rfl) ?_; intro h'w t'w k'w F'w N'w; (try k_sweep)))
  k_with "exec Raise some none" => (k_here; (with_reducible show wpAny _ _ (exec (Stmt.Raise (some (PySem.Expr.Call (PySem.Expr.Name _ _) [_] [] _)) none _) _) _ _ _); k_dflt (refine' Raise_bad ?Fw9 ?Xw9 ?Tw9 ?hw9 ?_ ?ew9 ?kw9 ?xw9; (case Fw9 => k_asm); (case Xw9 => k_asm); (case Tw9 => k_asm); (case hw9 => rfl); (case ew9 => rfl); (case kw9 => rfl); (case xw9 => rfl); k_whole))
  k_with "RaiseB" => (k_dflt (refine' raise_here ?Bw9 ?Fw9 ?Xw9 ?Nw9 ?Tw9 ?kw9 ?dw9 ?_; (case Bw9 => k_asm); (case Fw9 => k_asm); (case Xw9 => k_asm); (case Nw9 => k_asm); (case Tw9 => k_asm); (case kw9 => rfl); (case dw9 => ktr_room)); intro e9w dd9w tk9w k9w h9w R9w U9w)
  k_with "leaving ref" => (k_here; (refine' raise_next ?Kw9 ?Fw9 ?Rw9 ?Uw9 ?_; (case Rw9 => assumption); (case Kw9 => assumption); (case Uw9 => assumption); (case Fw9 => assumption)); intro h9w R9w U9w)
  k_with "compareOp NotIn bytes ref" => (k_here; k_dflt (refine' notin_signs ?Nw9 ?tw9 ?iw9 ?_; (case Nw9 => k_asm); (case tw9 => k_mem); (case iw9 => first | assumption | exact .cons .nil | exact .cons (.cons .nil) | exact .cons (.cons (.cons .nil))); k_whole))
  k_with "call ref" => (k_here; (with_reducible show wpAny _ _ (call (Value.ref _) _ _) _ _ _); (fail_if_success (with_reducible show wpAny _ _ (call (Value.ref 78) _ _) _ _ _)); (fail_if_success (with_reducible show wpAny _ _ (call (Value.ref 175) _ _) _ _ _)); refine stop_of ?_)
  k_with "UnrEnd" => (k_here; (refine' unr_keep ?Fw9 ?Nw9 ?ow9 ?_; (case Fw9 => assumption); (case Nw9 => k_asm); (case ow9 => exact fun p hp => Nat.ne_of_lt ((by assumption : ∀ p ∈ _, p.1 < _) p hp)); k_whole))
  k_with "exec While BoolOp" => (k_here; k_dflt (refine whl_start 100 ?_))
  k_with "execs cons" => (k_here; (try k_gentoks); (try (refine fold_Q ?_; intro qk9w ek9w)); (with_reducible refine wpAny_execs_cons ?_); (try dsimp only))
  k_with "storeName" => (k_here; k_dflt (refine' storeX_M ?Fw9 ?Nw9 ?_ ?aw9 ?bw9; (case Fw9 => k_asm); (case Nw9 => k_asm); (case aw9 => rfl); (case bw9 => rfl); k_whole; intro m9w h'w t9w F'w N'w; (try k_sweep); (try dsimp only)))
  k_with "storeName" => (k_here; (first | with_reducible refine tok_intA ?_ | with_reducible refine tok_intS ?_ | with_reducible refine tok_bytA ?_ | with_reducible refine tok_bytS ?_); intro t9w)
  k_with "call builtin:list.append" => (k_here; (first | with_reducible refine tok_appA ?_ | with_reducible refine tok_appS ?_); intro t9w)
  k_with "call ref" => (k_here; (with_reducible show wpAny _ _ (call (Value.ref 78) _ _) _ _ _); refine stop_of ?_)
  k_with "callWith ref" => (k_here; (with_reducible show wpAny _ _ (callWith _ (Value.ref _) _ (backTo _ (starEach [] _)) []) _ _ _); k_dflt (refine' callWith_K0 ?k1w9 ?k2w9 ?_; (case k1w9 => k_in); (case k2w9 => k_is); k_whole))
  k_with "exec While Name" => (k_here; refine stop_of ?_)
  k_with "subscriptTail" => (k_here; (with_reducible show wpAny _ _ (subscriptTail _ _ (Value.ref _) (Value.str _ _)) _ _ _); k_dflt (refine kda_item (knd := PySem.strKind _ _) (by k_asm) (by k_mem) (by assumption) (strKind_is _ _ _ _) (by rfl) ?_))
  k_with "setItem ref str" => (k_here; k_dflt (refine' kda_set (knd := PySem.strKind _ _) ?Fw9 ?Nw9 ?Uw9 ?dw9 (strKind_is _ _ _ _) ?zw9 ?_; (case Fw9 => k_asm); (case Nw9 => k_asm); (case Uw9 => k_updF); (case dw9 => assumption); (case zw9 => rw [sizeLine_eq]; exact Nat.le_of_ble_eq_true (by with_unfolding_all rfl))); intro h'w o'w F'w N'w hd'w; (try dsimp only at N'w))
  k_with "call builtin:len" => (k_here; k_dflt (refine i_len (by k_asm) (by k_mem) (by assumption) (by omega) ?_))
  k_with "exec For Name Name cons nil" => (k_here; (rename Fr _ _ _ _ => lF'w); (with_unfolding_all refine' For_invVF lF'w ?k1w9 ?k2w9 ?_; (case k1w9 => exact rfl); (case k2w9 => exact rfl); k_whole))
  k_with "getMethod bytes" => (k_here; (with_reducible refine join_method ?_))
  k_with "binaryOp Add bytes bytes" => (k_here; (with_reducible refine' bytes_add_L ?h1w9 ?h2w9 ?hzw9 ?_); (case h1w9 => with_reducible repeat' first | exact Le.dec _ | exact Le.one _ | assumption | apply Le.app); (case h2w9 => with_reducible repeat' first | exact Le.dec _ | exact Le.one _ | assumption | apply Le.app); (case hzw9 => exact Nat.le_of_ble_eq_true rfl); intro _ _)
  k_with "subscriptTail" => (k_here; (with_reducible show wpAny _ _ (subscriptTail _ _ (Value.ref _) (Value.int _ _)) _ _ _); k_dflt (refine t_item (by k_asm) (by assumption) (by decide) (by decide) (by rfl) (by rfl) ?_))
  k_with "subscriptTail Name Constant ref int" => (k_here; k_dflt (first | refine t_item (by k_asm) (by assumption) (by decide) (by decide) (by rfl) (by rfl) ?_ | (refine' item_tupleT ?tw9 ?aw9 ?bw9 ?cw9 ?dw9 ?_; (case tw9 => exact News.isTup (by k_asm) (by k_mem)); (case aw9 => decide); (case bw9 => decide); (case cw9 => rfl); (case dw9 => rfl); k_whole)))
  k_with "eval ListComp" => (k_here; k_dflt (refine ListComp_G (F₀ := by k_asm) (by rfl) (by decide) (by rfl) (by decide) (by rfl) ?_))
  k_with "subscriptTail" => (k_here; (with_reducible show wpAny _ _ (subscriptTail _ _ (Value.bytes _ _) (Value.int _ _)) _ _ _); refine stop_of ?_)
  k_with "call type:bytes" => (k_here; refine stop_of ?_)
  k_with "call builtin:bytes.join" => (k_here; refine stop_of ?_)
  k_with "InvEndN" => (k_here; refine stop_of ?_)
  k_with "pyIter bytes" => (k_here; refine stop_of ?_)
  trivial
def text (b : List UInt8) : List UInt8 := hex4 (sum1 b) ++ [44] ++ b
structure CS where
  v : Int
  t : Tok
  o : Obj
theorem stp_is2 (f c : Int) : (f.fdiv 2 + f.fmod 2 * 32768 + c).fmod 65536 = stp f c := by
  rw [Int.fdiv_eq_ediv_of_nonneg _ (by decide), Int.fmod_eq_emod_of_nonneg _ (by decide), Int.fmod_eq_emod_of_nonneg _ (by decide)]
  rfl
theorem bity {n d : Int} {k : Int} (e : (16 : Int) ^ k.toNat = d) (hd : 0 ≤ d) : (n.fdiv (16 ^ k.toNat)).fmod 16 = n / d % 16 := by
  rw [e, Int.fdiv_eq_ediv_of_nonneg _ hd, Int.fmod_eq_emod_of_nonneg _ (by decide)]
section
variable {w : World} {mean : ExcName → Option Value} {mg mb : Str → Option Value}
theorem c_text (b : List UInt8) (t : Tok) (rest : Led) (hb : b.length ≤ 900) : CT w mean mg mb 228 [.bytes b.toArray t] 5 rest (fun r n' => ∃ u, r = .bytes (text b).toArray u ∧ n' = rest) := by
  intro dp un gd cn cs a ccd cl outer A₀ base h₀ L m s Q E B F X N T hk hdp hun hQ
  refine wpAny_call ?_
  k_dflt (refine' code_defC ?k1 ?k2 ?k3 ?k4 ?k5 ?kA ?kF ?kK ?k6 ?k7 ?k8 ?k9 ?kB ?kD ?_ ?c2 ?c3 ?c4; (case kA => exact rfl); (case kF => exact rfl); (case kK => assumption); (case k1 => k_asm); (case k2 => k_asm); (case k3 => k_asm); (case k4 => k_asm); (case k5 => k_asm); (case k6 => k_is); (case k7 => k_is); (case k8 => ktr_room); (case k9 => exact BindsTo.of_eq rfl); (case kB => exact rfl); (case kD => decide +kernel); (case c2 => exact rfl); (case c3 => exact rfl); (case c4 => exact rfl); k_whole; intro g' L' h' tk' cells' FG' F' N' Y' B' X' T' l1; (try k_lt l1); k_cells Y'; (try simp only [List.cons_append, List.nil_append] at N'); (try dsimp only); (try k_lift B'); (try k_fold))
  have hcr : ∀ p ∈ rest, p.1 ≠ L' + 1 := fun p hp => Nat.ne_of_lt (Nat.lt_succ_of_lt (l1 p hp))
  k_steps
  unfold Stop
  rename Fr _ _ _ _ => lF'
  rename News _ _ _ _ => lN'
  refine KStb.kst_bytes (σ := CS) (ks := oInts b) (len := b.length) (fun c => (L' + 1, c.o) :: rest) (fun _ => []) (fun c => c.o.data = .cell (some (.int c.v c.t))) [Str.ofString "total"] (fun pre c => c.v = pre.foldl stp 0 ∧ 0 ≤ c.v ∧ c.v < 65536) ⟨0, _, _⟩ ?b ?l ?h lF' lN' (by assumption) (fun _ h => nomatch h) ⟨rfl, Int.le_refl 0, (by decide : (0 : Int) < 65536)⟩ ?t ?d
  case b => rfl
  case l => simp [oInts]
  case h => rfl
  case t =>
    clear lF' lN'
    rintro ⟨c, ct, co⟩ pre post n t u h tk own hks hpl hn0 hn1 hoff hco ⟨hc, hc0, hc1⟩ kF kN
    dsimp only at hc hc0 hc1 kF kN hco
    rw [List.cons_append] at kN
    have hcr2 : ∀ p ∈ rest ++ own, p.1 ≠ L' + 1 := fun p hp => (List.mem_append.mp hp).elim (hcr p) fun z => hoff p z _ (.head _)
    k_steps
    rename Obj.data _ = Data.cell (some _) => hd9
    rw [stp_is2 c n] at hd9
    unfold Stop
    refine kst_end (⟨stp c n, _, _⟩ : CS) (by assumption) (by assumption) ?hn ?ho (by exact rfl) hd9 (fun _ h => nomatch h) ?hr (pEnd hc rfl)
    case hn => exact fun p hp => (List.mem_cons.mp hp).elim (fun e => e ▸ .head _) fun z => .tail _ (List.mem_append.mpr (.inl z))
    case ho => exact fun p hp => .tail _ (List.mem_append.mpr (.inr hp))
    case hr => exact fun z h1 h2 h3 => (if_neg h1).trans (if_neg (by rw [h3]; exact Bool.false_ne_true))
  case d =>
    clear lF' lN'
    rintro ⟨c, ct, co⟩ u h tk _ hco ⟨hc, hc0, hc1⟩ kF kN
    dsimp only at hc hc0 hc1 kF kN hco
    k_steps
    rename News _ _ _ _ => lN'
    refine ⟨_, _, _, _, by k_asm, lN', by exact ⟨_, .head _⟩, ?sz, IterG.tuple rfl lN' ⟨_, .head _⟩, ?_⟩
    case sz => rw [sizeLine_eq]; exact Nat.le_of_ble_eq_true rfl
    rintro s₂ ⟨g, rfl⟩
    refine LCg.CompRest.succ (k := 3) ?_
    rintro v' I' oI' C' oC' D' m' h' tk' E' hv hC' hx' F' N' off' ne'
    lcg_open hv
    k_steps
    unfold Stop
    k_dflt (refine hex_item (kk := c / 4096 % 16) ?e1 ?e2 ?e3 ?_)
    case e1 => exact bity (by decide) (by decide)
    case e2 => exact Int.emod_nonneg _ (by decide)
    case e3 => exact Int.emod_lt_of_pos _ (by decide)
    refine cEnd (by k_asm) (by k_asm) (by assumption) ⟨_, .head _⟩ ?_
    refine LCg.CompRest.succ (k := 2) ?_
    rintro v' I' oI' C' oC' D' m' h' tk' E' hv hC' hx' F' N' off' ne'
    lcg_open hv
    k_steps
    unfold Stop
    k_dflt (refine hex_item (kk := c / 256 % 16) ?e1 ?e2 ?e3 ?_)
    case e1 => exact bity (by decide) (by decide)
    case e2 => exact Int.emod_nonneg _ (by decide)
    case e3 => exact Int.emod_lt_of_pos _ (by decide)
    refine cEnd (by k_asm) (by k_asm) (by assumption) ⟨_, .head _⟩ ?_
    refine LCg.CompRest.succ (k := 1) ?_
    rintro v' I' oI' C' oC' D' m' h' tk' E' hv hC' hx' F' N' off' ne'
    lcg_open hv
    k_steps
    unfold Stop
    k_dflt (refine hex_item (kk := c / 16 % 16) ?e1 ?e2 ?e3 ?_)
    case e1 => exact bity (by decide) (by decide)
    case e2 => exact Int.emod_nonneg _ (by decide)
    case e3 => exact Int.emod_lt_of_pos _ (by decide)
    refine cEnd (by k_asm) (by k_asm) (by assumption) ⟨_, .head _⟩ ?_
    refine LCg.CompRest.succ (k := 0) ?_
    rintro v' I' oI' C' oC' D' m' h' tk' E' hv hC' hx' F' N' off' ne'
    lcg_open hv
    k_steps
    unfold Stop
    k_dflt (refine hex_item (kk := c / 1 % 16) ?e1 ?e2 ?e3 ?_)
    case e1 => exact bity (by decide) (by decide)
    case e2 => exact Int.emod_nonneg _ (by decide)
    case e3 => exact Int.emod_lt_of_pos _ (by decide)
    refine cEnd (by k_asm) (by k_asm) (by assumption) ⟨_, .head _⟩ ?_
    refine LCg.CompRest.zero ?_
    intro D' h' tk' F' N' o1'
    dsimp only
    k_steps
    unfold Stop
    k_dflt (refine bytesInts (bs := hex4 c) (by k_asm) (by k_asm) (.head _) (.cons _ _ (.cons _ _ (.cons _ _ (.cons _ _ .nil)))) ?hr2 (Nat.le_of_ble_eq_true rfl) (by rfl) ?e ?_)
    case hr2 => exact List.forall_mem_cons.mpr ⟨hx_lt _, List.forall_mem_cons.mpr ⟨hx_lt _, List.forall_mem_cons.mpr ⟨hx_lt _, List.forall_mem_cons.mpr ⟨hx_lt _, List.forall_mem_nil _⟩⟩⟩⟩
    case e => exact hex4_map c
    intro h' t' k' F' N'
    have hLb : Le b 900 := hb
    have hLh : Le (hex4 c) 4 := Nat.le_refl 4
    k_steps
    exact hQ _ rest _ _ (by k_asm) (News.subs (by k_asm) (by kqd_sub)) ⟨_, by rw [hc]; rfl, rfl⟩
end
end Mine

theorem Mine.pk_3_012 {h₀ h : Heap} {L : Addr} {a0 a1 a2 : Addr × Obj} {rest : List (Addr × Obj)} (N : News h₀ L h (a0 :: a1 :: a2 :: rest)) : News h₀ L h (a0 :: a1 :: a2 :: rest) := by
  intro p hp
  refine N p ?_
  simp only [List.mem_cons] at hp ⊢
  grind only
namespace Mine
local macro_rules | `(tactic| omega) => `(tactic| lia)
theorem words_L50 : True := by
  k_with_none
  k_with "exec If" => (k_here; (with_reducible refine wpAny_If ?_); (refine fold_Q1 ?_; intro qk8w))
  k_with "exec Assign" => (k_here; (refine wpAny_Assign_Name ?_); (refine fold_Q1 ?_; intro qk8w))
  k_with "exec Return some" => (k_here; (refine wpAny_Return_some ?_); (refine fold_Q1 ?_; intro qk8w))
  k_with "eval Name" => (k_here; name_kind "globalImplicit"; (fail_if_success (with_reducible show wpAny _ _ (eval _ (compEnvC _ _ _ _)) _ _ _)); k_dflt (first | (name_is_builtin; refine' nameX_B ?Fw9 ?Xw9 ?Tw9 ?ew9 ?vw9 ?nw9 ?_ ?aw9 ?bw9; (case Fw9 => k_asm); (case Xw9 => k_asm); (case Tw9 => k_asm); (case aw9 => rfl); (case bw9 => rfl); (case ew9 => k_is); (case vw9 => boot_fast); (case nw9 => decide); k_whole) | (refine' nameX_K ?Fw9 ?Xw9 ?Tw9 ?ew9 ?_ ?aw9 ?bw9; (case Fw9 => k_asm); (case Xw9 => k_asm); (case Tw9 => k_asm); (case aw9 => rfl); (case bw9 => rfl); (case ew9 => k_is); k_whole)))
  k_with "eval Name" => (k_here; name_kind "local"; (fail_if_success (with_reducible show wpAny _ _ (eval _ (compEnvC _ _ _ _)) _ _ _)); k_dflt (refine' nameX_L ?Fw9 ?vw9 ?_ ?aw9 ?bw9; (case Fw9 => k_asm); (case aw9 => rfl); (case bw9 => rfl); (case vw9 => rfl); k_whole))
  k_with "eval Attribute Name" => (k_here; k_dflt (refine' own_L ?Fw9 ?Xw9 ?vw9 ?Nw9 ?iw9 ?jw9 ?k4w9 ?k5w9 ?k6w9 ?k7w9 ?k8w9 ?k9w9 ?_ ?aw9 ?bw9 ?cw9; (case Fw9 => k_asm); (case Xw9 => k_asm); (case aw9 => rfl); (case bw9 => rfl); (case cw9 => exact rfl); (case vw9 => rfl); (case Nw9 => k_asm); (case iw9 => k_mem); (case jw9 => k_mem); (case k4w9 => k_is); (case k5w9 => k_is); (case k6w9 => k_is); (case k7w9 => k_is); (case k8w9 => k_get); (case k9w9 => k_handed); k_whole))
  k_with "getAttr ref" => (k_here; k_dflt (refine' get_own ?k1w9 ?k2w9 ?k3w9 ?k4w9 ?k5w9 ?k6w9 ?k7w9 ?k8w9 ?k9w9 ?_; (case k1w9 => k_asm); (case k2w9 => k_asm); (case k3w9 => k_inst); (case k4w9 => k_is); (case k5w9 => k_is); (case k6w9 => k_is); (case k7w9 => k_is); (case k8w9 => k_get); (case k9w9 => k_handed); k_whole))
  k_with "ite" => (first | with_reducible refine ite_tt ?_ | with_reducible refine ite_ff ?_ | with_reducible refine ite_True_then ?_)
  k_with "WhlIf" => (first | (refine WhlIf.yes (by (simp only [decide_eq_true_eq]; omega)) ?_) | (refine WhlIf.no (by (simp only [decide_eq_false_iff_not]; omega)) ?_))
  k_with "subscriptTail" => (k_here; (with_reducible show wpAny _ _ (subscriptTail _ (PySem.Expr.Slice _ _ none _) (Value.bytes (List.toArray _) _) (Value.ref _)) _ _ _); (with_reducible rename Fr _ _ _ _ => F'w); (with_reducible rename News _ _ _ _ => N'w); first | (refine bslice_ij (s := ⟨_, _, _, _, _⟩) F'w N'w (by omega) (by omega) (by omega) (by first | with_reducible assumption | exact rfl) ?_; intro h'w t'w k'w F'w N'w; (try k_sweep)) | (refine bslice_j (s := ⟨_, _, _, _, _⟩) F'w N'w (by omega) (by omega) (by first | with_reducible assumption | exact rfl) ?_; intro h'w t'w k'w F'w N'w; (try k_sweep)) | (refine bslice_i (s := ⟨_, _, _, _, _⟩) F'w N'w (by omega) (by omega) (by first | with_reducible assumption | exact rfl) ?_; intro h'w t'w k'w F'w N'w; (try k_sweep)))
  k_with "exec Raise some none" => (k_here; (with_reducible show wpAny _ _ (exec (Stmt.Raise (some (PySem.Expr.Call (PySem.Expr.Name _ _) [_] [] _)) none _) _) _ _ _); k_dflt (refine' Raise_bad ?Fw9 ?Xw9 ?Tw9 ?hw9 ?_ ?ew9 ?kw9 ?xw9; (case Fw9 => k_asm); (case Xw9 => k_asm); (case Tw9 => k_asm); (case hw9 => rfl); (case ew9 => rfl); (case kw9 => rfl); (case xw9 => rfl); k_whole))
  k_with "RaiseB" => (k_dflt (refine' raise_here ?Bw9 ?Fw9 ?Xw9 ?Nw9 ?Tw9 ?kw9 ?dw9 ?_; (case Bw9 => k_asm); (case Fw9 => k_asm); (case Xw9 => k_asm); (case Nw9 => k_asm); (case Tw9 => k_asm); (case kw9 => rfl); (case dw9 => ktr_room)); intro e9w dd9w tk9w k9w h9w R9w U9w)
  k_with "leaving ref" => (k_here; (refine' raise_next ?Kw9 ?Fw9 ?Rw9 ?Uw9 ?_; (case Rw9 => assumption); (case Kw9 => assumption); (case Uw9 => assumption); (case Fw9 => assumption)); intro h9w R9w U9w)
  k_with "compareOp NotIn bytes ref" => (k_here; k_dflt (refine' notin_signs ?Nw9 ?tw9 ?iw9 ?_; (case Nw9 => k_asm); (case tw9 => k_mem); (case iw9 => first | assumption | exact .cons .nil | exact .cons (.cons .nil) | exact .cons (.cons (.cons .nil))); k_whole))
  k_with "call ref" => (k_here; (with_reducible show wpAny _ _ (call (Value.ref _) _ _) _ _ _); (fail_if_success (with_reducible show wpAny _ _ (call (Value.ref 78) _ _) _ _ _)); (fail_if_success (with_reducible show wpAny _ _ (call (Value.ref 175) _ _) _ _ _)); refine stop_of ?_)
  k_with "UnrEnd" => (k_here; (refine' unr_keep ?Fw9 ?Nw9 ?ow9 ?_; (case Fw9 => assumption); (case Nw9 => k_asm); (case ow9 => exact fun p hp => Nat.ne_of_lt ((by assumption : ∀ p ∈ _, p.1 < _) p hp)); k_whole))
  k_with "exec While BoolOp" => (k_here; k_dflt (refine whl_start 100 ?_))
  k_with "execs cons" => (k_here; (try k_gentoks); (try (refine fold_Q ?_; intro qk9w ek9w)); (with_reducible refine wpAny_execs_cons ?_); (try dsimp only))
  k_with "storeName" => (k_here; k_dflt (refine' storeX_M ?Fw9 ?Nw9 ?_ ?aw9 ?bw9; (case Fw9 => k_asm); (case Nw9 => k_asm); (case aw9 => rfl); (case bw9 => rfl); k_whole; intro m9w h'w t9w F'w N'w; (try k_sweep); (try dsimp only)))
  k_with "storeName" => (k_here; (first | with_reducible refine tok_intA ?_ | with_reducible refine tok_intS ?_ | with_reducible refine tok_bytA ?_ | with_reducible refine tok_bytS ?_); intro t9w)
  k_with "call builtin:list.append" => (k_here; (first | with_reducible refine tok_appA ?_ | with_reducible refine tok_appS ?_); intro t9w)
  k_with "call ref" => (k_here; (with_reducible show wpAny _ _ (call (Value.ref 78) _ _) _ _ _); refine stop_of ?_)
  k_with "callWith ref" => (k_here; (with_reducible show wpAny _ _ (callWith _ (Value.ref _) _ (backTo _ (starEach [] _)) []) _ _ _); k_dflt (refine' callWith_K0 ?k1w9 ?k2w9 ?_; (case k1w9 => k_in); (case k2w9 => k_is); k_whole))
  k_with "exec While Name" => (k_here; refine stop_of ?_)
  k_with "subscriptTail" => (k_here; (with_reducible show wpAny _ _ (subscriptTail _ _ (Value.ref _) (Value.str _ _)) _ _ _); k_dflt (refine kda_item (knd := PySem.strKind _ _) (by k_asm) (by k_mem) (by assumption) (strKind_is _ _ _ _) (by rfl) ?_))
  k_with "setItem ref str" => (k_here; k_dflt (refine' kda_set (knd := PySem.strKind _ _) ?Fw9 ?Nw9 ?Uw9 ?dw9 (strKind_is _ _ _ _) ?zw9 ?_; (case Fw9 => k_asm); (case Nw9 => k_asm); (case Uw9 => k_updF); (case dw9 => assumption); (case zw9 => rw [sizeLine_eq]; exact Nat.le_of_ble_eq_true (by with_unfolding_all rfl))); intro h'w o'w F'w N'w hd'w; (try dsimp only at N'w))
  k_with "call builtin:len" => (k_here; k_dflt (refine i_len (by k_asm) (by k_mem) (by assumption) (by omega) ?_))
  k_with "exec For Name Name cons nil" => (k_here; (rename Fr _ _ _ _ => lF'w); (with_unfolding_all refine' For_invVF lF'w ?k1w9 ?k2w9 ?_; (case k1w9 => exact rfl); (case k2w9 => exact rfl); k_whole))
  k_with "eval ListComp" => (k_here; k_dflt (refine LCg.ListComp_U (F₀ := by k_asm) (by rfl) (by decide) (by rfl) (by decide) (by rfl) ?_))
  k_with "CompSrc" => (k_here; refine stop_of ?_)
  trivial
theorem cIn_pane_k {w : World} {news : Led} {wd hg x y pn : Int} {P : Value → Prop}
    (k : ∀ a d l k1 k2 k3 k4 k5 k6 k7 t1 t2 t3 t4 t5 t6 n, (a, instObj 78 d) ∈ news → (d, cellD w k1 k2 k3 k4 k5 k6 k7 (.str (Str.ofString "pane") t1) (.int wd t2) (.int hg t3) (.int x t4) (.int y t5) (.ref l) (.int pn t6)) ∈ news → (l, W.listOf #[] n) ∈ news → P (.ref a)) : ∀ v, CellIn w news v (.pane wd hg x y pn) → P v := by
  intro v H
  cases H with | pane h4 h5 h6 =>
  exact k _ _ _ _ _ _ _ _ _ _ _ _ _ _ _ _ _ h4 h5 h6
theorem cIn_two_k {w : World} {news : Led} {row : Bool} {wd hg x y : Int} {ta tb : T} {P : Value → Prop}
    (k : ∀ a d l k1 k2 k3 k4 k5 k6 k7 t1 t2 t3 t4 t5 n va vb, (a, instObj 78 d) ∈ news → (d, cellD w k1 k2 k3 k4 k5 k6 k7 (.str (kindS row) t1) (.int wd t2) (.int hg t3) (.int x t4) (.int y t5) (.ref l) .none) ∈ news → (l, W.listOf #[.ref va, .ref vb] n) ∈ news → CellIn w news (.ref va) ta → CellIn w news (.ref vb) tb → P (.ref a)) : ∀ v, CellIn w news v (.two row wd hg x y ta tb) → P v := by
  intro v H
  cases H with | two h4 h5 h6 h1 h2 =>
  obtain ⟨va, rfl⟩ := h1.ref
  obtain ⟨vb, rfl⟩ := h2.ref
  exact k _ _ _ _ _ _ _ _ _ _ _ _ _ _ _ _ _ _ h4 h5 h6 h1 h2
theorem cIn_three_k {w : World} {news : Led} {row : Bool} {wd hg x y : Int} {ta tb tc : T} {P : Value → Prop}
    (k : ∀ a d l k1 k2 k3 k4 k5 k6 k7 t1 t2 t3 t4 t5 n va vb vc, (a, instObj 78 d) ∈ news → (d, cellD w k1 k2 k3 k4 k5 k6 k7 (.str (kindS row) t1) (.int wd t2) (.int hg t3) (.int x t4) (.int y t5) (.ref l) .none) ∈ news → (l, W.listOf #[.ref va, .ref vb, .ref vc] n) ∈ news → CellIn w news (.ref va) ta → CellIn w news (.ref vb) tb → CellIn w news (.ref vc) tc → P (.ref a)) : ∀ v, CellIn w news v (.three row wd hg x y ta tb tc) → P v := by
  intro v H
  cases H with | three h4 h5 h6 h1 h2 h3 =>
  obtain ⟨va, rfl⟩ := h1.ref
  obtain ⟨vb, rfl⟩ := h2.ref
  obtain ⟨vc, rfl⟩ := h3.ref
  exact k _ _ _ _ _ _ _ _ _ _ _ _ _ _ _ _ _ _ _ h4 h5 h6 h1 h2 h3
theorem apart_seen {a lp : Addr} {oa ol : Obj} {nw R news : Led} (h1 : AllLt a ((lp, ol) :: R)) (o : LCg.Off1 lp R) (hr : ∀ p ∈ news, p ∈ R) (hn : Apart nw news) : Apart ((a, oa) :: (lp, ol) :: nw) news := by
  intro q hq p hp
  rcases List.mem_cons.mp hq with rfl | hq
  · exact Nat.ne_of_gt (tb_ltOf h1 p (.tail _ (hr p hp)))
  exact apart_cell (a := a + 1) (d := a) (oa := oa) (od := oa) (ol := ol) (fun p hp => tb_ltOf h1 p hp) (Nat.lt_succ_self a) o hr hn q (.tail _ (.tail _ hq)) p hp
theorem CellAll.get {w : World} {news : Led} {vs : List Value} {ts : List T} (h : CellAll w news vs ts) : ∀ {i : Nat} {v : Value}, vs[i]? = some v → ∃ t, ts[i]? = some t ∧ CellIn w news v t := by
  induction h with
  | nil => intro i v e; simp at e
  | @cons v t vs ts h _ ih =>
    intro i v' e
    cases i with
    | zero => simp at e; subst e; exact ⟨t, by simp, h⟩
    | succ i => simp at e; obtain ⟨t', h1, h2⟩ := ih e; exact ⟨t', by simpa using h1, h2⟩
theorem CellAll.len {w : World} {news : Led} {vs : List Value} {ts : List T} (h : CellAll w news vs ts) : vs.length = ts.length := by
  induction h with
  | nil => rfl
  | cons _ _ ih => simp [ih]
theorem CellAll.of_ref {w : World} {news : Led} {a b : Addr} {ta tb : T} (h1 : CellIn w news (.ref a) ta) (h2 : CellIn w news (.ref b) tb) : CellAll w news [.ref a, .ref b] [ta, tb] := .cons h1 (.cons h2 .nil)
theorem dat_snoc {nw : Led} {vs : List Value} {ds : List Dat} {v : Value} {d : Dat} (h : DatAll nw vs ds) (hv : DatIn nw v d) : DatAll nw (vs ++ [v]) (ds ++ [d]) := by
  cases h with
  | nil => exact .cons hv .nil
  | cons h1 h2 => exact .cons h1 (dat_snoc h2 hv)
/-- a comprehension whose elements lay new things into the ledger -/
theorem compNew {prog : Program} {w : World} {A : Around} {h₀ : Heap} {L : Addr} {m : Str → Option Value} {env : Env} {elt : PySem.Expr} {x : Str} {scope : Scope} {cl : List (Str × Addr)} {s : Shared} {S : Led → Prop} {P : Nat → Value → Prop} {Fin : List Value → Led → Prop} {ts : List T} {news : Led}
   {R : Led → T → Value → Prop} {AL : Led → List Value → List T → Prop} (hsn : ∀ acc ys us new t y, AL acc ys us → R new t y → AL (new ++ acc) (ys ++ [y]) (us ++ [t])) (hS : ∀ acc, S (acc ++ news))
   (hE : ∀ i v I oI C oC D ys acc m₂ h tk (E' : Value → Shared → Prop) (Q : Value → Shared → Prop), P i v → LCg.NsObj oC m₂ → m₂ x = some v → Fr h₀ L h m → News h₀ L h ((I, oI) :: (C, oC) :: (D, LCg.lst ys) :: (acc ++ news)) → LCg.Off3 I C D (acc ++ news) →
     (∀ t y new h' tk', ts[i]? = some t → R new t y → Apart new ((I, oI) :: (C, oC) :: (D, LCg.lst ys) :: (acc ++ news)) → Fr h₀ L h' m → News h₀ L h' ((I, oI) :: (C, oC) :: (D, LCg.lst ys) :: (new ++ (acc ++ news))) → Q y { s with heap := h', toks := tk' }) → wpAny (model prog w) A (eval elt (compEnvC scope cl C env)) Q E' { s with heap := h, toks := tk })
   (hF : ∀ ys acc, AL acc ys ts → Apart acc news → Fin ys (acc ++ news)) : ∀ (k i : Nat) (ys : List Value) (acc : Led), i + k = ts.length → AL acc ys (ts.take i) → Apart acc news → LCg.CompRest prog w A h₀ L m env elt x scope cl s S P Fin k i ys (acc ++ news) := by
  intro k
  induction k with
  | zero =>
    intro i ys acc hk hy hap
    rw [List.take_of_length_le (by omega)] at hy
    exact LCg.CompRest.zero (hF ys acc hy hap)
  | succ k ih =>
    intro i ys acc hk hy hap
    refine LCg.CompRest.succ ?_
    intro v I oI C oC D m₂ h tk E' hv hC hx F N off ne
    refine hE i v I oI C oC D ys acc m₂ h tk E' _ hv hC hx F N off fun t y new h' tk' ht hR hab F' N' => ?_
    have e : new ++ (acc ++ news) = (new ++ acc) ++ news := (List.append_assoc _ _ _).symm
    refine cEnd F' N' (off3_app hab off) (e ▸ hS (new ++ acc)) ?_
    rw [e]
    refine ih (i + 1) _ _ (by omega) ?_ ((hab.drop3 subA).app hap)
    rw [List.take_add_one, ht]
    exact hsn _ _ _ _ _ _ hy hR
section
variable {w : World} {mean : ExcName → Option Value} {mg mb : Str → Option Value}
theorem c_seen_box (row : Bool) (wd hg x y : Int) (ts : List T) (D : Nat) (h3 : ts.length ≤ 3) (ih : ∀ t ∈ ts, ∀ (v : Value) (news : Led), CellIn w news v t → CT w mean mg mb 218 [v] (20 + 20 * t.dep) news (fun r n' => ∃ new, DatIn new r t.dat ∧ n' = new ++ news ∧ Apart new news)) (hdep : ∀ t ∈ ts, t.dep ≤ D)
   (a d l : Addr) (k1 k2 k3 k4 k5 k6 k7 t1 t2 t3 t4 t5 : Tok) (n : Nat) (vs : List Value) (news : Led) (hi : (a, instObj 78 d) ∈ news) (hd : (d, cellD w k1 k2 k3 k4 k5 k6 k7 (.str (kindS row) t1) (.int wd t2) (.int hg t3) (.int x t4) (.int y t5) (.ref l) .none) ∈ news)
   (hl : (l, W.listOf vs.toArray n) ∈ news) (hvs : CellAll w news vs ts) :
   CT w mean mg mb 218 [.ref a] (20 + 20 * (D + 1)) news (fun r n' => ∃ new, DatIn new r (.tuple [.str (kindS row), .int wd, .int hg, .int x, .int y, .list (ts.map Mine.T.dat), .none]) ∧ n' = new ++ news ∧ Apart new news) := by
  intro dp un gd cn cs a0 ccd cl0 outer A₀ base h₀ L m s Q E B F X N T hk hdp hun hQ
  have hvl := hvs.len
  have hkp : (kindS row == Str.ofString "pane") = false := by cases row <;> decide
  refine wpAny_call ?_
  k_dflt ktr_enter
  rename Fr _ _ _ _ => lF9
  refine fold_m lF9 ?_
  clear lF9
  intro m9 lF9
  k_steps
  unfold Stop
  refine LCg.CompSrc.ledger (by rfl) (by k_asm) (by k_asm) hl ?sz ?_
  case sz => rw [sizeLine_eq, List.size_toArray]; omega
  intro g'
  refine compNew (news := news) (ts := ts) (R := fun new t y => DatIn new y t.dat) (AL := fun acc ys us => DatAll acc ys (us.map Mine.T.dat)) ?hsn ?hS ?hE ?hF _ 0 [] [] (by simp [hvl]) .nil .nil
  case hsn =>
    intro acc ys us new t y h1 h2
    rw [List.map_append]
    exact dat_snoc (h1.mono subA) (h2.mono fun p hp => List.mem_append_left _ hp)
  case hS => exact fun acc => .inr ⟨_, subA _ hl, rfl, _, rfl⟩
  case hE =>
    intro i v I oI C oC D9 ys acc m₂ h tk E' Q' hv hC hx2 F' N' off hQ'
    obtain ⟨t, ht, hct⟩ := hvs.get (by simpa using hv)
    have htm := List.mem_of_getElem? ht
    have hdt := hdep t htm
    k_steps
    unfold Stop
    (try (refine fold_Q ?_; intro qk9 ek9)); k_dflt (refine CT.use (ih t htm _ _ (hct.mono ?s9)) (by k_asm) (by k_asm) (by k_asm) ((pk_3_012 (by k_asm))) (by k_asm) (by first | assumption | exact rfl) (by first | exact room_of hdp (by first | exact Nat.le_of_ble_eq_true rfl | exact Nat.le_add_right_of_le (Nat.le_of_ble_eq_true rfl) | omega) | (simp only [depth_under_make, depth_under_kw, depth_in1, depth_deeper, depth_caller, ktrTop]; omega) | ktr_room) (by first | exact units_of hun (by first | exact Nat.le_of_ble_eq_true rfl | exact Nat.le_add_right_of_le (Nat.le_of_ble_eq_true rfl) | omega) | (simp only [units_in1, units_deeper, Around.mark_units, units_caller, ktrTop]; omega) | ((try simp only [units_in1, units_deeper, Around.mark_units, units_caller] at *); (try dsimp only [ktrTop] at *); omega)) ?_)
    case s9 => exact fun p hp => sub3 _ (subA _ hp)
    refine use3 ?_
    intro h' tk' F' P9 rQ9 nQ9 kQ9
    obtain ⟨new, hc, en9, hab⟩ := kQ9
    refine eq_n en9 ?_
    clear en9
    (try clear nQ9)
    (try clear rQ9)
    intro N'
    (try clear P9)
    replace N' := reoC N'
    k_sweep
    exact hQ' _ _ new _ _ ht hc hab (by k_asm) (by k_asm)
  case hF =>
    intro ys acc hAL hap D' h' tk' F' N' o1'
    dsimp only
    have hi2 := memIn N' (.tail _ (subA _ hi))
    have hd2 := memIn N' (.tail _ (subA _ hd))
    k_steps
    refine hQ _ ((_ :: _ :: acc) ++ news) _ _ (by k_asm) (by k_asm) ⟨_ :: _ :: acc, .tuple (.head _) (.cons (.str _ _) (.cons (.int _ _) (.cons (.int _ _) (.cons (.int _ _) (.cons (.int _ _) (.cons (.list (vs := ys) (.tail _ (.head _)) (hAL.mono fun p hp => .tail _ (.tail _ hp))) (.cons .none .nil))))))), rfl, ?_⟩
    exact apart_seen (by tbn_lt) (by assumption) subA hap
theorem c_seen (t : T) : ∀ (v : Value) (news : Led), CellIn w news v t →
   CT w mean mg mb 218 [v] (20 + 20 * t.dep) news (fun r n' => ∃ new, DatIn new r t.dat ∧ n' = new ++ news ∧ Apart new news) := by
  induction t with
  | pane wd hg x y k =>
    intro v news H
    revert H
    revert v
    refine cIn_pane_k ?_
    intro a d l k1 k2 k3 k4 k5 k6 k7 t1 t2 t3 t4 t5 t6 n ha hd hl
    intro dp un gd cn cs a0 ccd cl0 outer A₀ base h₀ L m s Q E B F X N T hk hdp hun hQ
    simp only [Mine.T.dep] at hdp hun
    refine wpAny_call ?_
    k_dflt ktr_enter
    rename Fr _ _ _ _ => lF9
    refine fold_m lF9 ?_
    clear lF9
    intro m9 lF9
    k_steps
    unfold Stop
    refine LCg.CompSrc.ledger (by rfl) (by k_asm) (by k_asm) hl ?sz ?_
    case sz => rw [sizeLine_eq]; exact Nat.le_of_ble_eq_true rfl
    intro g'
    refine LCg.CompRest.zero ?_
    intro D' h' tk' F' N' o1'
    dsimp only
    k_steps
    refine hQ _ ([_, _] ++ news) _ _ (by k_asm) (by k_asm) ⟨[_, _], .tuple (.head _) (.cons (.str _ _) (.cons (.int _ _) (.cons (.int _ _) (.cons (.int _ _) (.cons (.int _ _) (.cons (.list (vs := []) (.tail _ (.head _)) .nil) (.cons (.int _ _) .nil))))))), rfl, ?_⟩
    exact apart_seen (by tbn_lt) (by assumption) (fun _ h => h) .nil
  | two row wd hg x y ta tb iha ihb =>
    intro v news H
    revert H
    revert v
    refine cIn_two_k ?_
    intro a d l k1 k2 k3 k4 k5 k6 k7 t1 t2 t3 t4 t5 n va vb hi hd hl ha hb
    rw [show (Mine.T.two row wd hg x y ta tb).dep = ta.dep + tb.dep + 1 by simp only [Mine.T.dep]; omega]
    exact c_seen_box row wd hg x y [ta, tb] _ (Nat.le_of_ble_eq_true rfl) (by simp only [List.mem_cons, List.not_mem_nil, or_false]; rintro t (rfl | rfl) <;> assumption) (by simp only [List.mem_cons, List.not_mem_nil, or_false]; rintro t (rfl | rfl) <;> omega) a d l _ _ _ _ _ _ _ _ _ _ _ _ n [.ref va, .ref vb] news hi hd hl (.cons ha (.cons hb .nil))
  | three row wd hg x y ta tb tc iha ihb ihc =>
    intro v news H
    revert H
    revert v
    refine cIn_three_k ?_
    intro a d l k1 k2 k3 k4 k5 k6 k7 t1 t2 t3 t4 t5 n va vb vc hi hd hl ha hb hc
    rw [show (Mine.T.three row wd hg x y ta tb tc).dep = ta.dep + tb.dep + tc.dep + 1 by simp only [Mine.T.dep]; omega]
    exact c_seen_box row wd hg x y [ta, tb, tc] _ (Nat.le_of_ble_eq_true rfl) (by simp only [List.mem_cons, List.not_mem_nil, or_false]; rintro t (rfl | rfl | rfl) <;> assumption) (by simp only [List.mem_cons, List.not_mem_nil, or_false]; rintro t (rfl | rfl | rfl) <;> omega) a d l _ _ _ _ _ _ _ _ _ _ _ _ n [.ref va, .ref vb, .ref vc] news hi hd hl (.cons ha (.cons hb (.cons hc .nil)))
end
end Mine

namespace Mine
local macro_rules | `(tactic| omega) => `(tactic| lia)
theorem words_L40 : True := by
  k_with_none
  k_with "exec If" => (k_here; (with_reducible refine wpAny_If ?_); (refine fold_Q1 ?_; intro qk8w))
  k_with "exec Assign" => (k_here; (refine wpAny_Assign_Name ?_); (refine fold_Q1 ?_; intro qk8w))
  k_with "exec Return some" => (k_here; (refine wpAny_Return_some ?_); (refine fold_Q1 ?_; intro qk8w))
  k_with "eval Name" => (k_here; name_kind "globalImplicit"; (fail_if_success (with_reducible show wpAny _ _ (eval _ (compEnvC _ _ _ _)) _ _ _)); k_dflt (first | (name_is_builtin; refine' nameX_B ?Fw9 ?Xw9 ?Tw9 ?ew9 ?vw9 ?nw9 ?_ ?aw9 ?bw9; (case Fw9 => k_asm); (case Xw9 => k_asm); (case Tw9 => k_asm); (case aw9 => rfl); (case bw9 => rfl); (case ew9 => k_is); (case vw9 => boot_fast); (case nw9 => decide); k_whole) | (refine' nameX_K ?Fw9 ?Xw9 ?Tw9 ?ew9 ?_ ?aw9 ?bw9; (case Fw9 => k_asm); (case Xw9 => k_asm); (case Tw9 => k_asm); (case aw9 => rfl); (case bw9 => rfl); (case ew9 => k_is); k_whole)))
  k_with "eval Name" => (k_here; name_kind "local"; (fail_if_success (with_reducible show wpAny _ _ (eval _ (compEnvC _ _ _ _)) _ _ _)); k_dflt (refine' nameX_L ?Fw9 ?vw9 ?_ ?aw9 ?bw9; (case Fw9 => k_asm); (case aw9 => rfl); (case bw9 => rfl); (case vw9 => rfl); k_whole))
  k_with "eval Attribute Name" => (k_here; k_dflt (refine' own_L ?Fw9 ?Xw9 ?vw9 ?Nw9 ?iw9 ?jw9 ?k4w9 ?k5w9 ?k6w9 ?k7w9 ?k8w9 ?k9w9 ?_ ?aw9 ?bw9 ?cw9; (case Fw9 => k_asm); (case Xw9 => k_asm); (case aw9 => rfl); (case bw9 => rfl); (case cw9 => exact rfl); (case vw9 => rfl); (case Nw9 => k_asm); (case iw9 => k_mem); (case jw9 => k_mem); (case k4w9 => k_is); (case k5w9 => k_is); (case k6w9 => k_is); (case k7w9 => k_is); (case k8w9 => k_get); (case k9w9 => k_handed); k_whole))
  k_with "getAttr ref" => (k_here; k_dflt (refine' get_own ?k1w9 ?k2w9 ?k3w9 ?k4w9 ?k5w9 ?k6w9 ?k7w9 ?k8w9 ?k9w9 ?_; (case k1w9 => k_asm); (case k2w9 => k_asm); (case k3w9 => k_inst); (case k4w9 => k_is); (case k5w9 => k_is); (case k6w9 => k_is); (case k7w9 => k_is); (case k8w9 => k_get); (case k9w9 => k_handed); k_whole))
  k_with "ite" => (first | with_reducible refine ite_tt ?_ | with_reducible refine ite_ff ?_ | with_reducible refine ite_True_then ?_)
  k_with "WhlIf" => (first | (refine WhlIf.yes (by (simp only [decide_eq_true_eq]; omega)) ?_) | (refine WhlIf.no (by (simp only [decide_eq_false_iff_not]; omega)) ?_))
  k_with "subscriptTail" => (k_here; (with_reducible show wpAny _ _ (subscriptTail _ (PySem.Expr.Slice _ _ none _) (Value.bytes (List.toArray _) _) (Value.ref _)) _ _ _); (with_reducible rename Fr _ _ _ _ => F'w); (with_reducible rename News _ _ _ _ => N'w); first | (refine bslice_ij (s := ⟨_, _, _, _, _⟩) F'w N'w (by omega) (by omega) (by omega) (by first | with_reducible assumption | exact rfl) ?_; intro h'w t'w k'w F'w N'w; (try k_sweep)) | (refine bslice_j (s := ⟨_, _, _, _, _⟩) F'w N'w (by omega) (by omega) (by first | with_reducible assumption | exact rfl) ?_; intro h'w t'w k'w F'w N'w; (try k_sweep)) | (refine bslice_i (s := ⟨_, _, _, _, _⟩) F'w N'w (by omega) (by omega) (by first | with_reducible assumption | exact rfl) ?_; intro h'w t'w k'w F'w N'w; (try k_sweep)))
  k_with "exec Raise some none" => (k_here; (with_reducible show wpAny _ _ (exec (Stmt.Raise (some (PySem.Expr.Call (PySem.Expr.Name _ _) [_] [] _)) none _) _) _ _ _); k_dflt (refine' Raise_bad ?Fw9 ?Xw9 ?Tw9 ?hw9 ?_ ?ew9 ?kw9 ?xw9; (case Fw9 => k_asm); (case Xw9 => k_asm); (case Tw9 => k_asm); (case hw9 => rfl); (case ew9 => rfl); (case kw9 => rfl); (case xw9 => rfl); k_whole))
  k_with "RaiseB" => (k_dflt (refine' raise_here ?Bw9 ?Fw9 ?Xw9 ?Nw9 ?Tw9 ?kw9 ?dw9 ?_; (case Bw9 => k_asm); (case Fw9 => k_asm); (case Xw9 => k_asm); (case Nw9 => k_asm); (case Tw9 => k_asm); (case kw9 => rfl); (case dw9 => ktr_room)); intro e9w dd9w tk9w k9w h9w R9w U9w)
  k_with "leaving ref" => (k_here; (refine' raise_next ?Kw9 ?Fw9 ?Rw9 ?Uw9 ?_; (case Rw9 => assumption); (case Kw9 => assumption); (case Uw9 => assumption); (case Fw9 => assumption)); intro h9w R9w U9w)
  k_with "compareOp NotIn bytes ref" => (k_here; k_dflt (refine' notin_signs ?Nw9 ?tw9 ?iw9 ?_; (case Nw9 => k_asm); (case tw9 => k_mem); (case iw9 => first | assumption | exact .cons .nil | exact .cons (.cons .nil) | exact .cons (.cons (.cons .nil))); k_whole))
  k_with "call ref" => (k_here; (with_reducible show wpAny _ _ (call (Value.ref _) _ _) _ _ _); (fail_if_success (with_reducible show wpAny _ _ (call (Value.ref 78) _ _) _ _ _)); (fail_if_success (with_reducible show wpAny _ _ (call (Value.ref 175) _ _) _ _ _)); refine stop_of ?_)
  k_with "UnrEnd" => (k_here; (refine' unr_keep ?Fw9 ?Nw9 ?ow9 ?_; (case Fw9 => assumption); (case Nw9 => k_asm); (case ow9 => exact fun p hp => Nat.ne_of_lt ((by assumption : ∀ p ∈ _, p.1 < _) p hp)); k_whole))
  k_with "exec While BoolOp" => (k_here; k_dflt (refine whl_start 100 ?_))
  k_with "execs cons" => (k_here; (try k_gentoks); (try (refine fold_Q ?_; intro qk9w ek9w)); (with_reducible refine wpAny_execs_cons ?_); (try dsimp only))
  k_with "storeName" => (k_here; k_dflt (refine' storeX_M ?Fw9 ?Nw9 ?_ ?aw9 ?bw9; (case Fw9 => k_asm); (case Nw9 => k_asm); (case aw9 => rfl); (case bw9 => rfl); k_whole; intro m9w h'w t9w F'w N'w; (try k_sweep); (try dsimp only)))
  k_with "storeName" => (k_here; (first | with_reducible refine tok_intA ?_ | with_reducible refine tok_intS ?_ | with_reducible refine tok_bytA ?_ | with_reducible refine tok_bytS ?_); intro t9w)
  k_with "call builtin:list.append" => (k_here; (first | with_reducible refine tok_appA ?_ | with_reducible refine tok_appS ?_); intro t9w)
  k_with "call ref" => (k_here; (with_reducible show wpAny _ _ (call (Value.ref 78) _ _) _ _ _); refine stop_of ?_)
  k_with "callWith ref" => (k_here; (with_reducible show wpAny _ _ (callWith _ (Value.ref _) _ (backTo _ (starEach [] _)) []) _ _ _); k_dflt (refine' callWith_K0 ?k1w9 ?k2w9 ?_; (case k1w9 => k_in); (case k2w9 => k_is); k_whole))
  k_with "exec While Name" => (k_here; refine stop_of ?_)
  k_with "subscriptTail" => (k_here; (with_reducible show wpAny _ _ (subscriptTail _ _ (Value.ref _) (Value.str _ _)) _ _ _); k_dflt (refine kda_item (knd := PySem.strKind _ _) (by k_asm) (by k_mem) (by assumption) (strKind_is _ _ _ _) (by rfl) ?_))
  k_with "setItem ref str" => (k_here; k_dflt (refine' kda_set (knd := PySem.strKind _ _) ?Fw9 ?Nw9 ?Uw9 ?dw9 (strKind_is _ _ _ _) ?zw9 ?_; (case Fw9 => k_asm); (case Nw9 => k_asm); (case Uw9 => k_updF); (case dw9 => assumption); (case zw9 => rw [sizeLine_eq]; exact Nat.le_of_ble_eq_true (by with_unfolding_all rfl))); intro h'w o'w F'w N'w hd'w; (try dsimp only at N'w))
  k_with "call builtin:len" => (k_here; k_dflt (refine i_len (by k_asm) (by k_mem) (by assumption) (by omega) ?_))
  k_with "exec For Name Name cons nil" => (k_here; (rename Fr _ _ _ _ => lF'w); (with_unfolding_all refine' For_invVF lF'w ?k1w9 ?k2w9 ?_; (case k1w9 => exact rfl); (case k2w9 => exact rfl); k_whole))
  k_with "eval ListComp" => (k_here; k_dflt (refine LCg.ListComp_U (F₀ := by k_asm) (by rfl) (by decide) (by rfl) (by decide) (by rfl) ?_))
  k_with "CompSrc" => (k_here; refine stop_of ?_)
  k_with "subscriptTail Name Constant ref int" => (k_here; (first | k_dflt (refine' item_tupleT ?tw9 ?aw9 ?bw9 ?cw9 ?dw9 ?_; (case tw9 => exact News.isTup (by k_asm) (by k_mem)); (case aw9 => decide); (case bw9 => decide); (case cw9 => rfl); (case dw9 => rfl); k_whole) | refine stop_of ?_))
  trivial
theorem datT_get {news : Led} : ∀ {vs : List Value} {ts : List T}, DatAll news vs (ts.map Mine.T.dat) → ∀ {i : Nat} {v : Value}, vs[i]? = some v → ∃ t, ts[i]? = some t ∧ DatIn news v t.dat
  | [], [], _, _, _, e => by simp at e
  | _ :: _, t :: _, .cons h1 h2, i, v, e => by
    cases i with
    | zero => simp at e; subst e; exact ⟨t, by simp, h1⟩
    | succ i => simp at e; obtain ⟨t', a, b⟩ := datT_get h2 e; exact ⟨t', by simpa using a, b⟩
theorem dat_len : ∀ {news : Led} {vs : List Value} {ds : List Dat}, DatAll news vs ds → vs.length = ds.length
  | _, _, _, .nil => rfl
  | _, _, _, .cons _ h => by simp [dat_len h]
theorem CellAll.snocs {w : World} {acc new : Led} {ys : List Value} {us : List T} {y : Value} {t : T} (h : CellAll w acc ys us) (hy : CellIn w new y t) : CellAll w (new ++ acc) (ys ++ [y]) (us ++ [t]) := (h.mono subA).snoc (hy.mono fun p hp => List.mem_append_left _ hp)
/-- a box's cell out of its parts' cells -/
theorem cell_box {w : World} {a d l : Addr} {acc : Led} {k1 k2 k3 k4 k5 k6 k7 t1 t2 t3 t4 t5 : Tok} {n : Nat} {row : Bool} {wd hg x y : Int} {vs : List Value} {ts : List T} {t : T} (hb : T.box row wd hg x y ts = some t) (hva : CellAll w acc vs ts) :
    CellIn w ((a, instObj 78 d) :: (d, cellD w k1 k2 k3 k4 k5 k6 k7 (.str (kindS row) t1) (.int wd t2) (.int hg t3) (.int x t4) (.int y t5) (.ref l) .none) :: (l, W.listOf vs.toArray n) :: acc) (.ref a) t := box_in hb hva
section
variable {w : World} {mean : ExcName → Option Value} {mg mb : Str → Option Value}
theorem c_lcell_box (row : Bool) (wd hg x y : Int) (ts : List T) (t : T) (hbox : T.box row wd hg x y ts = some t) (D : Nat) (h3 : ts.length ≤ 3) (ih : ∀ t ∈ ts, ∀ (v : Value) (news : Led), DatIn news v t.dat → CT w mean mg mb 213 [v] (20 + 20 * t.dep) news (fun r n' => ∃ new, CellIn w new r t ∧ n' = new ++ news ∧ Apart new news)) (hdep : ∀ t ∈ ts, t.dep ≤ D)
   (a l : Addr) (n n2 : Nat) (t1 t2 t3 t4 t5 : Tok) (vs : List Value) (news : Led) (hm : (a, ({ cls := .type "tuple", data := .seq #[.str (kindS row) t1, .int wd t2, .int hg t3, .int x t4, .int y t5, .ref l, .none] n } : Obj)) ∈ news)
   (hl : (l, W.listOf vs.toArray n2) ∈ news) (hvs : DatAll news vs (ts.map Mine.T.dat)) :
   CT w mean mg mb 213 [.ref a] (20 + 20 * (D + 1)) news (fun r n' => ∃ new, CellIn w new r t ∧ n' = new ++ news ∧ Apart new news) := by
  intro dp un gd cn cs a0 ccd cl0 outer A₀ base h₀ L m s Q E B F X N T hk hdp hun hQ
  have hvl : vs.length = ts.length := by rw [dat_len hvs, List.length_map]
  refine wpAny_call ?_
  k_dflt ktr_enter
  rename Fr _ _ _ _ => lF9
  refine fold_m lF9 ?_
  clear lF9
  intro m9 lF9
  k_steps
  unfold Stop
  refine LCg.CompSrc.ledger (by rfl) (by k_asm) (by k_asm) hl ?sz ?_
  case sz => rw [sizeLine_eq, List.size_toArray]; omega
  intro g'
  refine compNew (news := news) (ts := ts) (R := fun new t y => CellIn w new y t) (AL := CellAll w) ?hsn ?hS ?hE ?hF _ 0 [] [] (by simp [hvl]) .nil .nil
  case hsn => exact fun acc ys us new t y h1 h2 => h1.snocs h2
  case hS => exact fun acc => .inr ⟨_, subA _ hl, rfl, _, rfl⟩
  case hE =>
    intro i v I oI C oC D9 ys acc m₂ h tk E' Q' hv hC hx2 F' N' off hQ'
    obtain ⟨t, ht, hct⟩ := datT_get hvs (by simpa using hv)
    have htm := List.mem_of_getElem? ht
    have hdt := hdep t htm
    k_steps
    unfold Stop
    (try (refine fold_Q ?_; intro qk9 ek9)); k_dflt (refine CT.use (ih t htm _ _ (hct.mono ?s9)) (by k_asm) (by k_asm) (by k_asm) ((pk_3_012 (by k_asm))) (by k_asm) (by first | assumption | exact rfl) (by first | exact room_of hdp (by first | exact Nat.le_of_ble_eq_true rfl | exact Nat.le_add_right_of_le (Nat.le_of_ble_eq_true rfl) | omega) | (simp only [depth_under_make, depth_under_kw, depth_in1, depth_deeper, depth_caller, ktrTop]; omega) | ktr_room) (by first | exact units_of hun (by first | exact Nat.le_of_ble_eq_true rfl | exact Nat.le_add_right_of_le (Nat.le_of_ble_eq_true rfl) | omega) | (simp only [units_in1, units_deeper, Around.mark_units, units_caller, ktrTop]; omega) | ((try simp only [units_in1, units_deeper, Around.mark_units, units_caller] at *); (try dsimp only [ktrTop] at *); omega)) ?_)
    case s9 => exact fun p hp => sub3 _ (subA _ hp)
    refine use3 ?_
    intro h' tk' F' P9 rQ9 nQ9 kQ9
    obtain ⟨new, hc, en9, hab⟩ := kQ9
    refine eq_n en9 ?_
    clear en9
    (try clear nQ9)
    (try clear rQ9)
    intro N'
    (try clear P9)
    replace N' := reoC N'
    k_sweep
    exact hQ' _ _ new _ _ ht hc hab (by k_asm) (by k_asm)
  case hF =>
    intro ys acc hAL hap D' h' tk' F' N' o1'
    dsimp only
    have hm2 := memIn N' (.tail _ (subA _ hm))
    k_steps
    unfold Stop
    (try (refine fold_Q ?_; intro qk9 ek9)); k_dflt (refine CT.use (c_mkcell (kindS row) _ .none (.inl rfl) _ _ _ _ _ _ _ _ _ _) (by k_asm) (by k_asm) (by k_asm) (by k_asm) (by k_asm) (by first | assumption | exact rfl) (by first | exact room_of hdp (by first | exact Nat.le_of_ble_eq_true rfl | exact Nat.le_add_right_of_le (Nat.le_of_ble_eq_true rfl) | omega) | (simp only [depth_under_make, depth_under_kw, depth_in1, depth_deeper, depth_caller, ktrTop]; omega) | ktr_room) (by first | exact units_of hun (by first | exact Nat.le_of_ble_eq_true rfl | exact Nat.le_add_right_of_le (Nat.le_of_ble_eq_true rfl) | omega) | (simp only [units_in1, units_deeper, Around.mark_units, units_caller, ktrTop]; omega) | ((try simp only [units_in1, units_deeper, Around.mark_units, units_caller] at *); (try dsimp only [ktrTop] at *); omega)) ?_)
    refine use3 ?_
    intro h' tk' F' P9
    refine MkCell.out ?_
    intro a9 d9 k1 k2 k3 k4 k5 k6 k7 l1 l2 N'
    (try clear P9)
    k_sweep
    k_steps
    refine hQ _ ((_ :: _ :: _ :: acc) ++ news) _ _ (by k_asm) (by k_asm) ⟨_ :: _ :: _ :: acc, cell_box hbox hAL, rfl, ?_⟩
    exact apart_cell l1 l2 (by assumption) subA hap
theorem c_lcell (t : T) : ∀ (v : Value) (news : Led), DatIn news v t.dat →
   CT w mean mg mb 213 [v] (20 + 20 * t.dep) news (fun r n' => ∃ new, CellIn w new r t ∧ n' = new ++ news ∧ Apart new news) := by
  induction t with
  | pane wd hg x y k =>
    intro v news H
    revert H
    revert v
    refine dat_pane_k ?_
    intro a n l n2 t1 t2 t3 t4 t5 t6 hm hl
    intro dp un gd cn cs a0 ccd cl0 outer A₀ base h₀ L m s Q E B F X N T hk hdp hun hQ
    simp only [Mine.T.dep] at hdp hun
    refine wpAny_call ?_
    k_dflt ktr_enter
    rename Fr _ _ _ _ => lF9
    refine fold_m lF9 ?_
    clear lF9
    intro m9 lF9
    k_steps
    unfold Stop
    refine LCg.CompSrc.ledger (by rfl) (by k_asm) (by k_asm) hl ?sz ?_
    case sz => rw [sizeLine_eq]; exact Nat.le_of_ble_eq_true rfl
    intro g'
    refine LCg.CompRest.zero ?_
    intro D' h' tk' F' N' o1'
    dsimp only
    k_steps
    unfold Stop
    (try (refine fold_Q ?_; intro qk9 ek9)); k_dflt (refine CT.use (c_mkcell (Str.ofString "pane") _ (.int k _) (.inr ⟨_, _, rfl⟩) _ _ _ _ _ _ _ _ _ _) (by k_asm) (by k_asm) (by k_asm) (by k_asm) (by k_asm) (by first | assumption | exact rfl) (by first | exact room_of hdp (by first | exact Nat.le_of_ble_eq_true rfl | exact Nat.le_add_right_of_le (Nat.le_of_ble_eq_true rfl) | omega) | (simp only [depth_under_make, depth_under_kw, depth_in1, depth_deeper, depth_caller, ktrTop]; omega) | ktr_room) (by first | exact units_of hun (by first | exact Nat.le_of_ble_eq_true rfl | exact Nat.le_add_right_of_le (Nat.le_of_ble_eq_true rfl) | omega) | (simp only [units_in1, units_deeper, Around.mark_units, units_caller, ktrTop]; omega) | ((try simp only [units_in1, units_deeper, Around.mark_units, units_caller] at *); (try dsimp only [ktrTop] at *); omega)) ?_)
    refine use3 ?_
    intro h' tk' F' P9
    refine MkCell.out ?_
    intro a d k1 k2 k3 k4 k5 k6 k7 l1 l2 N'
    (try clear P9)
    k_sweep
    k_steps
    refine hQ _ ([_, _, _] ++ news) _ _ (by k_asm) (by k_asm) ⟨[_, _, _], .pane (.head _) (.tail _ (.head _)) (.tail _ (.tail _ (.head _))), rfl, ?_⟩
    exact apart_cell l1 l2 (by assumption) (fun _ h => h) .nil
  | two row wd hg x y ta tb iha ihb =>
    intro v news H
    revert H
    revert v
    refine dat_two_k ?_
    intro a n l n2 t1 t2 t3 t4 t5 va vb hm hl ha hb
    rw [show (Mine.T.two row wd hg x y ta tb).dep = ta.dep + tb.dep + 1 by simp only [Mine.T.dep]; omega]
    exact c_lcell_box row wd hg x y [ta, tb] _ rfl _ (Nat.le_of_ble_eq_true rfl) (by simp only [List.mem_cons, List.not_mem_nil, or_false]; rintro t (rfl | rfl) <;> assumption) (by simp only [List.mem_cons, List.not_mem_nil, or_false]; rintro t (rfl | rfl) <;> omega) a l n n2 _ _ _ _ _ [va, vb] news hm hl (.cons ha (.cons hb .nil))
  | three row wd hg x y ta tb tc iha ihb ihc =>
    intro v news H
    revert H
    revert v
    refine dat_three_k ?_
    intro a n l n2 t1 t2 t3 t4 t5 va vb vc hm hl ha hb hc
    rw [show (Mine.T.three row wd hg x y ta tb tc).dep = ta.dep + tb.dep + tc.dep + 1 by simp only [Mine.T.dep]; omega]
    exact c_lcell_box row wd hg x y [ta, tb, tc] _ rfl _ (Nat.le_of_ble_eq_true rfl) (by simp only [List.mem_cons, List.not_mem_nil, or_false]; rintro t (rfl | rfl | rfl) <;> assumption) (by simp only [List.mem_cons, List.not_mem_nil, or_false]; rintro t (rfl | rfl | rfl) <;> omega) a l n n2 _ _ _ _ _ [va, vb, vc] news hm hl (.cons ha (.cons hb (.cons hc .nil)))
end
end Mine

namespace Mine
local macro_rules | `(tactic| omega) => `(tactic| lia)
theorem words_L60 : True := by
  k_with_none
  k_with "exec If" => (k_here; (with_reducible refine wpAny_If ?_); (refine fold_Q1 ?_; intro qk8w))
  k_with "exec Assign" => (k_here; (refine wpAny_Assign_Name ?_); (refine fold_Q1 ?_; intro qk8w))
  k_with "exec Return some" => (k_here; (refine wpAny_Return_some ?_); (refine fold_Q1 ?_; intro qk8w))
  k_with "eval Name" => (k_here; name_kind "globalImplicit"; (fail_if_success (with_reducible show wpAny _ _ (eval _ (compEnvC _ _ _ _)) _ _ _)); k_dflt (first | (name_is_builtin; refine' nameX_B ?Fw9 ?Xw9 ?Tw9 ?ew9 ?vw9 ?nw9 ?_ ?aw9 ?bw9; (case Fw9 => k_asm); (case Xw9 => k_asm); (case Tw9 => k_asm); (case aw9 => rfl); (case bw9 => rfl); (case ew9 => k_is); (case vw9 => boot_fast); (case nw9 => decide); k_whole) | (refine' nameX_K ?Fw9 ?Xw9 ?Tw9 ?ew9 ?_ ?aw9 ?bw9; (case Fw9 => k_asm); (case Xw9 => k_asm); (case Tw9 => k_asm); (case aw9 => rfl); (case bw9 => rfl); (case ew9 => k_is); k_whole)))
  k_with "eval Name" => (k_here; name_kind "local"; (fail_if_success (with_reducible show wpAny _ _ (eval _ (compEnvC _ _ _ _)) _ _ _)); k_dflt (refine' nameX_L ?Fw9 ?vw9 ?_ ?aw9 ?bw9; (case Fw9 => k_asm); (case aw9 => rfl); (case bw9 => rfl); (case vw9 => rfl); k_whole))
  k_with "eval Attribute Name" => (k_here; k_dflt (refine' own_L ?Fw9 ?Xw9 ?vw9 ?Nw9 ?iw9 ?jw9 ?k4w9 ?k5w9 ?k6w9 ?k7w9 ?k8w9 ?k9w9 ?_ ?aw9 ?bw9 ?cw9; (case Fw9 => k_asm); (case Xw9 => k_asm); (case aw9 => rfl); (case bw9 => rfl); (case cw9 => exact rfl); (case vw9 => rfl); (case Nw9 => k_asm); (case iw9 => k_mem); (case jw9 => k_mem); (case k4w9 => k_is); (case k5w9 => k_is); (case k6w9 => k_is); (case k7w9 => k_is); (case k8w9 => k_get); (case k9w9 => k_handed); k_whole))
  k_with "getAttr ref" => (k_here; k_dflt (refine' get_own ?k1w9 ?k2w9 ?k3w9 ?k4w9 ?k5w9 ?k6w9 ?k7w9 ?k8w9 ?k9w9 ?_; (case k1w9 => k_asm); (case k2w9 => k_asm); (case k3w9 => k_inst); (case k4w9 => k_is); (case k5w9 => k_is); (case k6w9 => k_is); (case k7w9 => k_is); (case k8w9 => k_get); (case k9w9 => k_handed); k_whole))
  k_with "ite" => (first | with_reducible refine ite_tt ?_ | with_reducible refine ite_ff ?_ | with_reducible refine ite_True_then ?_)
  k_with "WhlIf" => (first | (refine WhlIf.yes (by (simp only [decide_eq_true_eq]; omega)) ?_) | (refine WhlIf.no (by (simp only [decide_eq_false_iff_not]; omega)) ?_))
  k_with "subscriptTail" => (k_here; (with_reducible show wpAny _ _ (subscriptTail _ (PySem.Expr.Slice _ _ none _) (Value.bytes (List.toArray _) _) (Value.ref _)) _ _ _); (with_reducible rename Fr _ _ _ _ => F'w); (with_reducible rename News _ _ _ _ => N'w); first | (refine bslice_ij (s := ⟨_, _, _, _, _⟩) F'w N'w (by omega) (by omega) (by omega) (by first | with_reducible assumption | exact rfl) ?_; intro h'w t'w k'w F'w N'w; (try k_sweep)) | (refine bslice_j (s := ⟨_, _, _, _, _⟩) F'w N'w (by omega) (by omega) (by first | with_reducible assumption | exact rfl) ?_; intro h'w t'w k'w F'w N'w; (try k_sweep)) | (refine bslice_i (s := ⟨_, _, _, _, _⟩) F'w N'w (by omega) (by omega) (by first | with_reducible assumption | exact rfl) ?_; intro h'w t'w k'w F'w N'w; (try k_sweep)))
  k_with "exec Raise some none" => (k_here; (with_reducible show wpAny _ _ (exec (Stmt.Raise (some (PySem.Expr.Call (PySem.Expr.Name _ _) [_] [] _)) none _) _) _ _ _); k_dflt (refine' Raise_bad ?Fw9 ?Xw9 ?Tw9 ?hw9 ?_ ?ew9 ?kw9 ?xw9; (case Fw9 => k_asm); (case Xw9 => k_asm); (case Tw9 => k_asm); (case hw9 => rfl); (case ew9 => rfl); (case kw9 => rfl); (case xw9 => rfl); k_whole))
  k_with "RaiseB" => (k_dflt (refine' raise_here ?Bw9 ?Fw9 ?Xw9 ?Nw9 ?Tw9 ?kw9 ?dw9 ?_; (case Bw9 => k_asm); (case Fw9 => k_asm); (case Xw9 => k_asm); (case Nw9 => k_asm); (case Tw9 => k_asm); (case kw9 => rfl); (case dw9 => ktr_room)); intro e9w dd9w tk9w k9w h9w R9w U9w)
  k_with "leaving ref" => (k_here; (refine' raise_next ?Kw9 ?Fw9 ?Rw9 ?Uw9 ?_; (case Rw9 => assumption); (case Kw9 => assumption); (case Uw9 => assumption); (case Fw9 => assumption)); intro h9w R9w U9w)
  k_with "compareOp NotIn bytes ref" => (k_here; k_dflt (refine' notin_signs ?Nw9 ?tw9 ?iw9 ?_; (case Nw9 => k_asm); (case tw9 => k_mem); (case iw9 => first | assumption | exact .cons .nil | exact .cons (.cons .nil) | exact .cons (.cons (.cons .nil))); k_whole))
  k_with "call ref" => (k_here; (with_reducible show wpAny _ _ (call (Value.ref _) _ _) _ _ _); (fail_if_success (with_reducible show wpAny _ _ (call (Value.ref 78) _ _) _ _ _)); (fail_if_success (with_reducible show wpAny _ _ (call (Value.ref 175) _ _) _ _ _)); refine stop_of ?_)
  k_with "UnrEnd" => (k_here; (refine' unr_keep ?Fw9 ?Nw9 ?ow9 ?_; (case Fw9 => assumption); (case Nw9 => k_asm); (case ow9 => exact fun p hp => Nat.ne_of_lt ((by assumption : ∀ p ∈ _, p.1 < _) p hp)); k_whole))
  k_with "exec While BoolOp" => (k_here; k_dflt (refine whl_start 100 ?_))
  k_with "execs cons" => (k_here; (try k_gentoks); (try (refine fold_Q ?_; intro qk9w ek9w)); (with_reducible refine wpAny_execs_cons ?_); (try dsimp only))
  k_with "storeName" => (k_here; k_dflt (refine' storeX_M ?Fw9 ?Nw9 ?_ ?aw9 ?bw9; (case Fw9 => k_asm); (case Nw9 => k_asm); (case aw9 => rfl); (case bw9 => rfl); k_whole; intro m9w h'w t9w F'w N'w; (try k_sweep); (try dsimp only)))
  k_with "storeName" => (k_here; (first | with_reducible refine tok_intA ?_ | with_reducible refine tok_intS ?_ | with_reducible refine tok_bytA ?_ | with_reducible refine tok_bytS ?_); intro t9w)
  k_with "call builtin:list.append" => (k_here; (first | with_reducible refine tok_appA ?_ | with_reducible refine tok_appS ?_); intro t9w)
  k_with "call ref" => (k_here; (with_reducible show wpAny _ _ (call (Value.ref 78) _ _) _ _ _); refine stop_of ?_)
  k_with "callWith ref" => (k_here; (with_reducible show wpAny _ _ (callWith _ (Value.ref _) _ (backTo _ (starEach [] _)) []) _ _ _); k_dflt (refine' callWith_K0 ?k1w9 ?k2w9 ?_; (case k1w9 => k_in); (case k2w9 => k_is); k_whole))
  k_with "exec While Name" => (k_here; refine stop_of ?_)
  k_with "subscriptTail" => (k_here; (with_reducible show wpAny _ _ (subscriptTail _ _ (Value.ref _) (Value.str _ _)) _ _ _); k_dflt (refine kda_item (knd := PySem.strKind _ _) (by k_asm) (by k_mem) (by assumption) (strKind_is _ _ _ _) (by rfl) ?_))
  k_with "setItem ref str" => (k_here; k_dflt (refine' kda_set (knd := PySem.strKind _ _) ?Fw9 ?Nw9 ?Uw9 ?dw9 (strKind_is _ _ _ _) ?zw9 ?_; (case Fw9 => k_asm); (case Nw9 => k_asm); (case Uw9 => k_updF); (case dw9 => assumption); (case zw9 => rw [sizeLine_eq]; exact Nat.le_of_ble_eq_true (by with_unfolding_all rfl))); intro h'w o'w F'w N'w hd'w; (try dsimp only at N'w))
  k_with "call builtin:len" => (k_here; k_dflt (refine i_len (by k_asm) (by k_mem) (by assumption) (by omega) ?_))
  k_with "exec For Name Name cons nil" => (k_here; (rename Fr _ _ _ _ => lF'w); (with_unfolding_all refine' For_invVF lF'w ?k1w9 ?k2w9 ?_; (case k1w9 => exact rfl); (case k2w9 => exact rfl); k_whole))
  k_with "getMethod bytes" => (k_here; (with_reducible refine join_method ?_))
  k_with "binaryOp Add bytes bytes" => (k_here; (with_reducible refine' bytes_add_L ?h1w9 ?h2w9 ?hzw9 ?_); (case h1w9 => with_reducible repeat' first | exact Le.dec _ | exact Le.one _ | assumption | apply Le.app); (case h2w9 => with_reducible repeat' first | exact Le.dec _ | exact Le.one _ | assumption | apply Le.app); (case hzw9 => exact Nat.le_of_ble_eq_true rfl); intro _ _)
  k_with "subscriptTail" => (k_here; (with_reducible show wpAny _ _ (subscriptTail _ _ (Value.ref _) (Value.int _ _)) _ _ _); k_dflt (refine t_item (by k_asm) (by assumption) (by decide) (by decide) (by rfl) (by rfl) ?_))
  k_with "subscriptTail Name Constant ref int" => (k_here; k_dflt (first | refine t_item (by k_asm) (by assumption) (by decide) (by decide) (by rfl) (by rfl) ?_ | (refine' item_tupleT ?tw9 ?aw9 ?bw9 ?cw9 ?dw9 ?_; (case tw9 => exact News.isTup (by k_asm) (by k_mem)); (case aw9 => decide); (case bw9 => decide); (case cw9 => rfl); (case dw9 => rfl); k_whole)))
  k_with "subscriptTail" => (k_here; (with_reducible show wpAny _ _ (subscriptTail _ _ (Value.bytes _ _) (Value.int _ _)) _ _ _); refine stop_of ?_)
  k_with "call type:bytes" => (k_here; refine stop_of ?_)
  k_with "call builtin:bytes.join" => (k_here; refine stop_of ?_)
  k_with "eval ListComp" => (k_here; k_dflt (refine LCg.ListComp_U (F₀ := by k_asm) (by rfl) (by decide) (by rfl) (by decide) (by rfl) ?_))
  k_with "CompSrc" => (k_here; refine stop_of ?_)
  trivial
/-- the values are the parts' texts -/
inductive BytesAll : List Value → List T → Prop
  | nil : BytesAll [] []
  | cons {t : T} {ts : List T} {ys : List Value} (u : Tok) : BytesAll ys ts → BytesAll (.bytes t.body.toArray u :: ys) (t :: ts)
theorem BytesAll.snoc {ys : List Value} {us : List T} {t : T} {u : Tok} (h : BytesAll ys us) : BytesAll (ys ++ [.bytes t.body.toArray u]) (us ++ [t]) := by
  induction h with
  | nil => exact .cons _ .nil
  | cons _ _ ih => exact .cons _ ih
/-- the parts' texts with a comma between -/
def inner : List T → List UInt8
  | [a, b] => a.body ++ [44] ++ b.body
  | [a, b, c] => a.body ++ [44] ++ b.body ++ [44] ++ c.body
  | _ => []
theorem compBytes {prog : Program} {w : World} {A : Around} {h₀ : Heap} {L : Addr} {m : Str → Option Value} {env : Env} {elt : PySem.Expr} {x : Str} {scope : Scope} {cl : List (Str × Addr)} {s : Shared} {S : Led → Prop} {P : Nat → Value → Prop} {Fin : List Value → Led → Prop} {ts : List T} {news : Led} (hS : S news)
   (hE : ∀ i v I oI C oC D ys m₂ h tk (E' : Value → Shared → Prop) (Q : Value → Shared → Prop), P i v → LCg.NsObj oC m₂ → m₂ x = some v → Fr h₀ L h m → News h₀ L h ((I, oI) :: (C, oC) :: (D, LCg.lst ys) :: news) →
     (∀ t u h' tk', ts[i]? = some t → Fr h₀ L h' m → News h₀ L h' ((I, oI) :: (C, oC) :: (D, LCg.lst ys) :: news) → Q (.bytes t.body.toArray u) { s with heap := h', toks := tk' }) → wpAny (model prog w) A (eval elt (compEnvC scope cl C env)) Q E' { s with heap := h, toks := tk })
   (hF : ∀ ys, BytesAll ys ts → Fin ys news) : ∀ (k i : Nat) (ys : List Value), i + k = ts.length → BytesAll ys (ts.take i) → LCg.CompRest prog w A h₀ L m env elt x scope cl s S P Fin k i ys news := by
  intro k
  induction k with
  | zero =>
    intro i ys hk hy
    rw [List.take_of_length_le (by omega)] at hy
    exact LCg.CompRest.zero (hF ys hy)
  | succ k ih =>
    intro i ys hk hy
    refine LCg.CompRest.succ ?_
    intro v I oI C oC D m₂ h tk E' hv hC hx F N off ne
    refine hE i v I oI C oC D ys m₂ h tk E' _ hv hC hx F N fun t u h' tk' ht F' N' => ?_
    refine cEnd F' N' off hS (ih (i + 1) _ (by omega) ?_)
    rw [List.take_add_one, ht]
    exact hy.snoc
section
variable {prog : Program} {w : World} {A : Around} {E : Value → Shared → Prop} {s : Shared} {h₀ : Heap} {L a : Addr} {news : Led} {n : Nat} {t : Tok}
theorem joinB {ys : List Value} {ts : List T} {Q : Value → Shared → Prop} (N : News h₀ L s.heap news) (hm : (a, ({ cls := .type "list", data := .seq ys.toArray n } : Obj)) ∈ news) (hb : BytesAll ys ts) (h2 : 2 ≤ ts.length) (h3 : ts.length ≤ 3) (hl : ∀ t ∈ ts, t.leafs ≤ 40)
    (h : ∀ t' k, Le (inner ts) 2500 → Q (.bytes (inner ts).toArray t') { s with toks := k }) : wpAny (model prog w) A (call (.builtin "bytes.join") [.bytes #[44] t, .ref a]) Q E s := by
  cases hb with
  | nil => exact absurd h2 (by decide)
  | @cons a r1 y1 u1 hb =>
    cases hb with
    | nil => exact absurd h2 (Nat.not_succ_le_self 1)
    | @cons b r2 y2 u2 hb =>
      have q5 := Le.body (hl a (.head _)); have q6 := Le.body (hl b (.tail _ (.head _)))
      cases hb with
      | nil => exact join2 N hm (Le.pair q5 q6 (by decide)) fun t' k => h t' k (Nat.le_trans ((q5.app (Le.one 44)).app q6) (by decide))
      | @cons c r3 y3 u3 hb =>
        have q7 := Le.body (hl c (.tail _ (.tail _ (.head _))))
        cases hb with
        | nil => exact join3 N hm (Le.trip q5 q6 q7 (by decide)) fun t' k => h t' k (Nat.le_trans ((((q5.app (Le.one 44)).app q6).app (Le.one 44)).app q7) (by decide))
        | @cons d r4 y4 u4 hb => exact absurd h3 (Nat.not_le_of_lt (Nat.le_add_left 4 r4.length))
end
theorem box_body (row : Bool) (w h x y : Int) (i : List UInt8) : dec w ++ [120] ++ dec h ++ [44] ++ dec x ++ [44] ++ dec y ++ ([opn row] ++ i ++ [cls row]) = hdT w h x y ++ [opn row] ++ i ++ [cls row] := by
  simp only [hdT, List.append_assoc]
section
variable {w : World} {mean : ExcName → Option Value} {mg mb : Str → Option Value}
theorem c_body_box (row : Bool) (wd hg x y : Int) (ts : List T) (D : Nat) (h2 : 2 ≤ ts.length) (h3 : ts.length ≤ 3) (hn : num wd ∧ num hg ∧ num x ∧ num y) (hleaf : ∀ t ∈ ts, t.leafs ≤ 40) (ih : ∀ t ∈ ts, ∀ (v : Value) (news : Led), DatIn news v t.dat → CT w mean mg mb 223 [v] (20 + 20 * t.dep) news (fun r n' => ∃ u, r = .bytes t.body.toArray u ∧ n' = news)) (hdep : ∀ t ∈ ts, t.dep ≤ D)
   (a l : Addr) (n n2 : Nat) (t1 t2 t3 t4 t5 : Tok) (vs : List Value) (news : Led) (hm : (a, ({ cls := .type "tuple", data := .seq #[.str (kindS row) t1, .int wd t2, .int hg t3, .int x t4, .int y t5, .ref l, .none] n } : Obj)) ∈ news)
   (hl : (l, W.listOf vs.toArray n2) ∈ news) (hvs : DatAll news vs (ts.map Mine.T.dat)) :
   CT w mean mg mb 223 [.ref a] (20 + 20 * (D + 1)) news (fun r n' => ∃ u, r = .bytes (hdT wd hg x y ++ [opn row] ++ inner ts ++ [cls row]).toArray u ∧ n' = news) := by
  intro dp un gd cn cs a0 ccd cl0 outer A₀ base h₀ L m s Q E B F X N T hk hdp hun hQ
  have hvl : vs.length = ts.length := by rw [dat_len hvs, List.length_map]
  obtain ⟨hn1, hn2, hn3, hn4⟩ := hn
  refine wpAny_call ?_
  k_dflt ktr_enter
  rename Fr _ _ _ _ => lF9
  refine fold_m lF9 ?_
  clear lF9
  intro m9 lF9
  have hkp : (kindS row == Str.ofString "pane") = false := by cases row <;> decide
  k_steps
  unfold Stop
  (try (refine fold_Q ?_; intro qk9 ek9)); k_dflt (refine CT.use (c_figs _ _ hn1.1 hn1.2 _) (by k_asm) (by k_asm) (by k_asm) (by k_asm) (by k_asm) (by first | assumption | exact rfl) (by first | exact room_of hdp (by first | exact Nat.le_of_ble_eq_true rfl | exact Nat.le_add_right_of_le (Nat.le_of_ble_eq_true rfl) | omega) | (simp only [depth_under_make, depth_under_kw, depth_in1, depth_deeper, depth_caller, ktrTop]; omega) | ktr_room) (by first | exact units_of hun (by first | exact Nat.le_of_ble_eq_true rfl | exact Nat.le_add_right_of_le (Nat.le_of_ble_eq_true rfl) | omega) | (simp only [units_in1, units_deeper, Around.mark_units, units_caller, ktrTop]; omega) | ((try simp only [units_in1, units_deeper, Around.mark_units, units_caller] at *); (try dsimp only [ktrTop] at *); omega)) ?_)
  refine use3 ?_
  intro h' tk' F' P9 rQ9 nQ9 kQ9
  obtain ⟨u, er9, en9⟩ := kQ9
  refine eq_rn er9 en9 ?_
  clear er9 en9
  (try clear nQ9)
  (try clear rQ9)
  intro N'
  (try clear P9)
  k_sweep
  k_steps
  unfold Stop
  (try (refine fold_Q ?_; intro qk9 ek9)); k_dflt (refine CT.use (c_figs _ _ hn2.1 hn2.2 _) (by k_asm) (by k_asm) (by k_asm) (by k_asm) (by k_asm) (by first | assumption | exact rfl) (by first | exact room_of hdp (by first | exact Nat.le_of_ble_eq_true rfl | exact Nat.le_add_right_of_le (Nat.le_of_ble_eq_true rfl) | omega) | (simp only [depth_under_make, depth_under_kw, depth_in1, depth_deeper, depth_caller, ktrTop]; omega) | ktr_room) (by first | exact units_of hun (by first | exact Nat.le_of_ble_eq_true rfl | exact Nat.le_add_right_of_le (Nat.le_of_ble_eq_true rfl) | omega) | (simp only [units_in1, units_deeper, Around.mark_units, units_caller, ktrTop]; omega) | ((try simp only [units_in1, units_deeper, Around.mark_units, units_caller] at *); (try dsimp only [ktrTop] at *); omega)) ?_)
  refine use3 ?_
  intro h' tk' F' P9 rQ9 nQ9 kQ9
  obtain ⟨u, er9, en9⟩ := kQ9
  refine eq_rn er9 en9 ?_
  clear er9 en9
  (try clear nQ9)
  (try clear rQ9)
  intro N'
  (try clear P9)
  k_sweep
  k_steps
  unfold Stop
  (try (refine fold_Q ?_; intro qk9 ek9)); k_dflt (refine CT.use (c_figs _ _ hn3.1 hn3.2 _) (by k_asm) (by k_asm) (by k_asm) (by k_asm) (by k_asm) (by first | assumption | exact rfl) (by first | exact room_of hdp (by first | exact Nat.le_of_ble_eq_true rfl | exact Nat.le_add_right_of_le (Nat.le_of_ble_eq_true rfl) | omega) | (simp only [depth_under_make, depth_under_kw, depth_in1, depth_deeper, depth_caller, ktrTop]; omega) | ktr_room) (by first | exact units_of hun (by first | exact Nat.le_of_ble_eq_true rfl | exact Nat.le_add_right_of_le (Nat.le_of_ble_eq_true rfl) | omega) | (simp only [units_in1, units_deeper, Around.mark_units, units_caller, ktrTop]; omega) | ((try simp only [units_in1, units_deeper, Around.mark_units, units_caller] at *); (try dsimp only [ktrTop] at *); omega)) ?_)
  refine use3 ?_
  intro h' tk' F' P9 rQ9 nQ9 kQ9
  obtain ⟨u, er9, en9⟩ := kQ9
  refine eq_rn er9 en9 ?_
  clear er9 en9
  (try clear nQ9)
  (try clear rQ9)
  intro N'
  (try clear P9)
  k_sweep
  k_steps
  unfold Stop
  (try (refine fold_Q ?_; intro qk9 ek9)); k_dflt (refine CT.use (c_figs _ _ hn4.1 hn4.2 _) (by k_asm) (by k_asm) (by k_asm) (by k_asm) (by k_asm) (by first | assumption | exact rfl) (by first | exact room_of hdp (by first | exact Nat.le_of_ble_eq_true rfl | exact Nat.le_add_right_of_le (Nat.le_of_ble_eq_true rfl) | omega) | (simp only [depth_under_make, depth_under_kw, depth_in1, depth_deeper, depth_caller, ktrTop]; omega) | ktr_room) (by first | exact units_of hun (by first | exact Nat.le_of_ble_eq_true rfl | exact Nat.le_add_right_of_le (Nat.le_of_ble_eq_true rfl) | omega) | (simp only [units_in1, units_deeper, Around.mark_units, units_caller, ktrTop]; omega) | ((try simp only [units_in1, units_deeper, Around.mark_units, units_caller] at *); (try dsimp only [ktrTop] at *); omega)) ?_)
  refine use3 ?_
  intro h' tk' F' P9 rQ9 nQ9 kQ9
  obtain ⟨u, er9, en9⟩ := kQ9
  refine eq_rn er9 en9 ?_
  clear er9 en9
  (try clear nQ9)
  (try clear rQ9)
  intro N'
  (try clear P9)
  k_sweep
  k_steps
  unfold Stop
  refine LCg.CompSrc.ledger (by rfl) (by k_asm) (by k_asm) hl ?sz ?_
  case sz => rw [sizeLine_eq, List.size_toArray]; omega
  intro g'
  refine compBytes (news := news) (ts := ts) ?hS ?hE ?hF _ 0 [] (by simp [hvl]) .nil
  case hS => exact .inr ⟨_, hl, rfl, _, rfl⟩
  case hE =>
    intro i v I oI C oC D9 ys m₂ h tk E' Q' hv hC hx2 F' N' hQ'
    obtain ⟨t, ht, hct⟩ := datT_get hvs (by simpa using hv)
    have htm := List.mem_of_getElem? ht
    have hdt := hdep t htm
    k_steps
    unfold Stop
    (try (refine fold_Q ?_; intro qk9 ek9)); k_dflt (refine CT.use (ih t htm _ _ (hct.mono ?s9)) (by k_asm) (by k_asm) (by k_asm) ((pk_3_012 (by k_asm))) (by k_asm) (by first | assumption | exact rfl) (by first | exact room_of hdp (by first | exact Nat.le_of_ble_eq_true rfl | exact Nat.le_add_right_of_le (Nat.le_of_ble_eq_true rfl) | omega) | (simp only [depth_under_make, depth_under_kw, depth_in1, depth_deeper, depth_caller, ktrTop]; omega) | ktr_room) (by first | exact units_of hun (by first | exact Nat.le_of_ble_eq_true rfl | exact Nat.le_add_right_of_le (Nat.le_of_ble_eq_true rfl) | omega) | (simp only [units_in1, units_deeper, Around.mark_units, units_caller, ktrTop]; omega) | ((try simp only [units_in1, units_deeper, Around.mark_units, units_caller] at *); (try dsimp only [ktrTop] at *); omega)) ?_)
    case s9 => exact sub3
    refine use3 ?_
    intro h' tk' F' P9 rQ9 nQ9 kQ9
    obtain ⟨u9, er9, en9⟩ := kQ9
    refine eq_rn er9 en9 ?_
    clear er9 en9
    (try clear nQ9)
    (try clear rQ9)
    intro N'
    (try clear P9)
    k_sweep
    exact hQ' _ _ _ _ ht (by k_asm) (by k_asm)
  case hF =>
    intro ys hys D' h' tk' F' N' o1'
    dsimp only
    k_steps
    unfold Stop
    k_dflt (refine joinB (by k_asm) (.head _) hys h2 h3 hleaf ?_)
    intro t9 k9 hLi
    k_steps
    · obtain rfl : row = true := by
        cases row
        · exact absurd ‹(kindS false == Str.ofString "row") = true› (by decide)
        · rfl
      exact hQ _ _ _ _ (by k_asm) (News.subs (by k_asm) (by kqd_sub)) ⟨_, congrArg (fun z => Value.bytes (List.toArray z) _) (box_body true wd hg x y (inner ts)), rfl⟩
    · obtain rfl : row = false := by
        cases row
        · rfl
        · exact absurd ‹(kindS true == Str.ofString "row") = false› (by decide)
      exact hQ _ _ _ _ (by k_asm) (News.subs (by k_asm) (by kqd_sub)) ⟨_, congrArg (fun z => Value.bytes (List.toArray z) _) (box_body false wd hg x y (inner ts)), rfl⟩
theorem c_body (t : T) : ∀ (v : Value) (news : Led), DatIn news v t.dat → t.Nums → t.leafs ≤ 40 →
   CT w mean mg mb 223 [v] (20 + 20 * t.dep) news (fun r n' => ∃ u, r = .bytes t.body.toArray u ∧ n' = news) := by
  induction t with
  | pane wd hg x y k =>
    intro v news H hn hsz
    revert H
    revert v
    refine dat_pane_k ?_
    intro a n l n2 t1 t2 t3 t4 t5 t6 hm hl
    intro dp un gd cn cs a0 ccd cl0 outer A₀ base h₀ L m s Q E B F X N T hk hdp hun hQ
    simp only [Mine.T.dep] at hdp hun
    obtain ⟨hn1, hn2, hn3, hn4, hn5⟩ := hn
    refine wpAny_call ?_
    k_dflt ktr_enter
    rename Fr _ _ _ _ => lF9
    refine fold_m lF9 ?_
    clear lF9
    intro m9 lF9
    k_steps
    unfold Stop
    (try (refine fold_Q ?_; intro qk9 ek9)); k_dflt (refine CT.use (c_figs _ _ hn1.1 hn1.2 _) (by k_asm) (by k_asm) (by k_asm) (by k_asm) (by k_asm) (by first | assumption | exact rfl) (by first | exact room_of hdp (by first | exact Nat.le_of_ble_eq_true rfl | exact Nat.le_add_right_of_le (Nat.le_of_ble_eq_true rfl) | omega) | (simp only [depth_under_make, depth_under_kw, depth_in1, depth_deeper, depth_caller, ktrTop]; omega) | ktr_room) (by first | exact units_of hun (by first | exact Nat.le_of_ble_eq_true rfl | exact Nat.le_add_right_of_le (Nat.le_of_ble_eq_true rfl) | omega) | (simp only [units_in1, units_deeper, Around.mark_units, units_caller, ktrTop]; omega) | ((try simp only [units_in1, units_deeper, Around.mark_units, units_caller] at *); (try dsimp only [ktrTop] at *); omega)) ?_)
    refine use3 ?_
    intro h' tk' F' P9 rQ9 nQ9 kQ9
    obtain ⟨u, er9, en9⟩ := kQ9
    refine eq_rn er9 en9 ?_
    clear er9 en9
    (try clear nQ9)
    (try clear rQ9)
    intro N'
    (try clear P9)
    k_sweep
    k_steps
    unfold Stop
    (try (refine fold_Q ?_; intro qk9 ek9)); k_dflt (refine CT.use (c_figs _ _ hn2.1 hn2.2 _) (by k_asm) (by k_asm) (by k_asm) (by k_asm) (by k_asm) (by first | assumption | exact rfl) (by first | exact room_of hdp (by first | exact Nat.le_of_ble_eq_true rfl | exact Nat.le_add_right_of_le (Nat.le_of_ble_eq_true rfl) | omega) | (simp only [depth_under_make, depth_under_kw, depth_in1, depth_deeper, depth_caller, ktrTop]; omega) | ktr_room) (by first | exact units_of hun (by first | exact Nat.le_of_ble_eq_true rfl | exact Nat.le_add_right_of_le (Nat.le_of_ble_eq_true rfl) | omega) | (simp only [units_in1, units_deeper, Around.mark_units, units_caller, ktrTop]; omega) | ((try simp only [units_in1, units_deeper, Around.mark_units, units_caller] at *); (try dsimp only [ktrTop] at *); omega)) ?_)
    refine use3 ?_
    intro h' tk' F' P9 rQ9 nQ9 kQ9
    obtain ⟨u, er9, en9⟩ := kQ9
    refine eq_rn er9 en9 ?_
    clear er9 en9
    (try clear nQ9)
    (try clear rQ9)
    intro N'
    (try clear P9)
    k_sweep
    k_steps
    unfold Stop
    (try (refine fold_Q ?_; intro qk9 ek9)); k_dflt (refine CT.use (c_figs _ _ hn3.1 hn3.2 _) (by k_asm) (by k_asm) (by k_asm) (by k_asm) (by k_asm) (by first | assumption | exact rfl) (by first | exact room_of hdp (by first | exact Nat.le_of_ble_eq_true rfl | exact Nat.le_add_right_of_le (Nat.le_of_ble_eq_true rfl) | omega) | (simp only [depth_under_make, depth_under_kw, depth_in1, depth_deeper, depth_caller, ktrTop]; omega) | ktr_room) (by first | exact units_of hun (by first | exact Nat.le_of_ble_eq_true rfl | exact Nat.le_add_right_of_le (Nat.le_of_ble_eq_true rfl) | omega) | (simp only [units_in1, units_deeper, Around.mark_units, units_caller, ktrTop]; omega) | ((try simp only [units_in1, units_deeper, Around.mark_units, units_caller] at *); (try dsimp only [ktrTop] at *); omega)) ?_)
    refine use3 ?_
    intro h' tk' F' P9 rQ9 nQ9 kQ9
    obtain ⟨u, er9, en9⟩ := kQ9
    refine eq_rn er9 en9 ?_
    clear er9 en9
    (try clear nQ9)
    (try clear rQ9)
    intro N'
    (try clear P9)
    k_sweep
    k_steps
    unfold Stop
    (try (refine fold_Q ?_; intro qk9 ek9)); k_dflt (refine CT.use (c_figs _ _ hn4.1 hn4.2 _) (by k_asm) (by k_asm) (by k_asm) (by k_asm) (by k_asm) (by first | assumption | exact rfl) (by first | exact room_of hdp (by first | exact Nat.le_of_ble_eq_true rfl | exact Nat.le_add_right_of_le (Nat.le_of_ble_eq_true rfl) | omega) | (simp only [depth_under_make, depth_under_kw, depth_in1, depth_deeper, depth_caller, ktrTop]; omega) | ktr_room) (by first | exact units_of hun (by first | exact Nat.le_of_ble_eq_true rfl | exact Nat.le_add_right_of_le (Nat.le_of_ble_eq_true rfl) | omega) | (simp only [units_in1, units_deeper, Around.mark_units, units_caller, ktrTop]; omega) | ((try simp only [units_in1, units_deeper, Around.mark_units, units_caller] at *); (try dsimp only [ktrTop] at *); omega)) ?_)
    refine use3 ?_
    intro h' tk' F' P9 rQ9 nQ9 kQ9
    obtain ⟨u, er9, en9⟩ := kQ9
    refine eq_rn er9 en9 ?_
    clear er9 en9
    (try clear nQ9)
    (try clear rQ9)
    intro N'
    (try clear P9)
    k_sweep
    k_steps
    unfold Stop
    refine LCg.CompSrc.ledger (by rfl) (by k_asm) (by k_asm) hl ?sz ?_
    case sz => rw [sizeLine_eq]; exact Nat.le_of_ble_eq_true rfl
    intro g'
    refine LCg.CompRest.zero ?_
    intro D' h' tk' F' N' o1'
    dsimp only
    k_steps
    unfold Stop
    k_dflt (refine join0 (by k_asm) (.head _) ?_)
    intro _ _
    k_steps
    unfold Stop
    (try (refine fold_Q ?_; intro qk9 ek9)); k_dflt (refine CT.use (c_figs _ _ hn5.1 hn5.2 _) (by k_asm) (by k_asm) (by k_asm) (by k_asm) (by k_asm) (by first | assumption | exact rfl) (by first | exact room_of hdp (by first | exact Nat.le_of_ble_eq_true rfl | exact Nat.le_add_right_of_le (Nat.le_of_ble_eq_true rfl) | omega) | (simp only [depth_under_make, depth_under_kw, depth_in1, depth_deeper, depth_caller, ktrTop]; omega) | ktr_room) (by first | exact units_of hun (by first | exact Nat.le_of_ble_eq_true rfl | exact Nat.le_add_right_of_le (Nat.le_of_ble_eq_true rfl) | omega) | (simp only [units_in1, units_deeper, Around.mark_units, units_caller, ktrTop]; omega) | ((try simp only [units_in1, units_deeper, Around.mark_units, units_caller] at *); (try dsimp only [ktrTop] at *); omega)) ?_)
    refine use3 ?_
    intro h' tk' F' P9 rQ9 nQ9 kQ9
    obtain ⟨u, er9, en9⟩ := kQ9
    refine eq_rn er9 en9 ?_
    clear er9 en9
    (try clear nQ9)
    (try clear rQ9)
    intro N'
    (try clear P9)
    k_sweep
    k_steps
    exact hQ _ _ _ _ (by k_asm) (News.subs (by k_asm) (by kqd_sub)) ⟨_, rfl, rfl⟩
  | two row wd hg x y ta tb iha ihb =>
    intro v news H hn hsz
    revert H
    revert v
    refine dat_two_k ?_
    intro a n l n2 t1 t2 t3 t4 t5 va vb hm hl ha hb
    simp only [Mine.T.leafs] at hsz
    obtain ⟨hn1, hn2, hn3, hn4, hna, hnb⟩ := hn
    rw [show (Mine.T.two row wd hg x y ta tb).dep = ta.dep + tb.dep + 1 by simp only [Mine.T.dep]; omega]
    have hleaf : ∀ t ∈ [ta, tb], t.leafs ≤ 40 := by
      simp only [List.mem_cons, List.not_mem_nil, or_false]
      rintro t (rfl | rfl) <;> omega
    have hdep : ∀ t ∈ [ta, tb], t.dep ≤ ta.dep + tb.dep := by
      simp only [List.mem_cons, List.not_mem_nil, or_false]
      rintro t (rfl | rfl) <;> omega
    refine c_body_box row wd hg x y [ta, tb] _ (Nat.le_of_ble_eq_true rfl) (Nat.le_of_ble_eq_true rfl) ⟨hn1, hn2, hn3, hn4⟩ hleaf ?_ hdep a l n n2 _ _ _ _ _ [va, vb] news hm hl (.cons ha (.cons hb .nil))
    simp only [List.mem_cons, List.not_mem_nil, or_false]
    rintro t (rfl | rfl) v news H
    · exact iha v news H hna (by omega)
    · exact ihb v news H hnb (by omega)
  | three row wd hg x y ta tb tc iha ihb ihc =>
    intro v news H hn hsz
    revert H
    revert v
    refine dat_three_k ?_
    intro a n l n2 t1 t2 t3 t4 t5 va vb vc hm hl ha hb hc
    simp only [Mine.T.leafs] at hsz
    obtain ⟨hn1, hn2, hn3, hn4, hna, hnb, hnc⟩ := hn
    rw [show (Mine.T.three row wd hg x y ta tb tc).dep = ta.dep + tb.dep + tc.dep + 1 by simp only [Mine.T.dep]; omega]
    have hleaf : ∀ t ∈ [ta, tb, tc], t.leafs ≤ 40 := by
      simp only [List.mem_cons, List.not_mem_nil, or_false]
      rintro t (rfl | rfl | rfl) <;> omega
    have hdep : ∀ t ∈ [ta, tb, tc], t.dep ≤ ta.dep + tb.dep + tc.dep := by
      simp only [List.mem_cons, List.not_mem_nil, or_false]
      rintro t (rfl | rfl | rfl) <;> omega
    refine c_body_box row wd hg x y [ta, tb, tc] _ (Nat.le_of_ble_eq_true rfl) (Nat.le_of_ble_eq_true rfl) ⟨hn1, hn2, hn3, hn4⟩ hleaf ?_ hdep a l n n2 _ _ _ _ _ [va, vb, vc] news hm hl (.cons ha (.cons hb (.cons hc .nil)))
    simp only [List.mem_cons, List.not_mem_nil, or_false]
    rintro t (rfl | rfl | rfl) v news H
    · exact iha v news H hna (by omega)
    · exact ihb v news H hnb (by omega)
    · exact ihc v news H hnc (by omega)
end
end Mine

theorem Mine.pk_2_01 {h₀ h : Heap} {L : Addr} {a0 a1 : Addr × Obj} {rest : List (Addr × Obj)} (N : News h₀ L h (a0 :: a1 :: rest)) : News h₀ L h (a0 :: a1 :: rest) := by
  intro p hp
  refine N p ?_
  simp only [List.mem_cons] at hp ⊢
  grind only
theorem Mine.pk_3_120 {h₀ h : Heap} {L : Addr} {a0 a1 a2 : Addr × Obj} {rest : List (Addr × Obj)} (N : News h₀ L h (a0 :: a1 :: a2 :: rest)) : News h₀ L h (a1 :: a2 :: a0 :: rest) := by
  intro p hp
  refine N p ?_
  simp only [List.mem_cons] at hp ⊢
  grind only
theorem Mine.pk_5_2301 {h₀ h : Heap} {L : Addr} {a0 a1 a2 a3 a4 : Addr × Obj} {rest : List (Addr × Obj)} (N : News h₀ L h (a0 :: a1 :: a2 :: a3 :: a4 :: rest)) : News h₀ L h (a2 :: a3 :: a0 :: a1 :: rest) := by
  intro p hp
  refine N p ?_
  simp only [List.mem_cons] at hp ⊢
  grind only
theorem Mine.pk_5_123 {h₀ h : Heap} {L : Addr} {a0 a1 a2 a3 a4 : Addr × Obj} {rest : List (Addr × Obj)} (N : News h₀ L h (a0 :: a1 :: a2 :: a3 :: a4 :: rest)) : News h₀ L h (a1 :: a2 :: a3 :: rest) := by
  intro p hp
  refine N p ?_
  simp only [List.mem_cons] at hp ⊢
  grind only
theorem Mine.pk_5_34012 {h₀ h : Heap} {L : Addr} {a0 a1 a2 a3 a4 : Addr × Obj} {rest : List (Addr × Obj)} (N : News h₀ L h (a0 :: a1 :: a2 :: a3 :: a4 :: rest)) : News h₀ L h (a3 :: a4 :: a0 :: a1 :: a2 :: rest) := by
  intro p hp
  refine N p ?_
  simp only [List.mem_cons] at hp ⊢
  grind only
theorem Mine.pk_6_201345 {h₀ h : Heap} {L : Addr} {a0 a1 a2 a3 a4 a5 : Addr × Obj} {rest : List (Addr × Obj)} (N : News h₀ L h (a0 :: a1 :: a2 :: a3 :: a4 :: a5 :: rest)) : News h₀ L h (a2 :: a0 :: a1 :: a3 :: a4 :: a5 :: rest) := by
  intro p hp
  refine N p ?_
  simp only [List.mem_cons] at hp ⊢
  grind only
theorem Mine.pk_6_120345 {h₀ h : Heap} {L : Addr} {a0 a1 a2 a3 a4 a5 : Addr × Obj} {rest : List (Addr × Obj)} (N : News h₀ L h (a0 :: a1 :: a2 :: a3 :: a4 :: a5 :: rest)) : News h₀ L h (a1 :: a2 :: a0 :: a3 :: a4 :: a5 :: rest) := by
  intro p hp
  refine N p ?_
  simp only [List.mem_cons] at hp ⊢
  grind only
theorem Mine.pk_5_301 {h₀ h : Heap} {L : Addr} {a0 a1 a2 a3 a4 : Addr × Obj} {rest : List (Addr × Obj)} (N : News h₀ L h (a0 :: a1 :: a2 :: a3 :: a4 :: rest)) : News h₀ L h (a3 :: a0 :: a1 :: rest) := by
  intro p hp
  refine N p ?_
  simp only [List.mem_cons] at hp ⊢
  grind only
theorem Mine.pk_5_2134 {h₀ h : Heap} {L : Addr} {a0 a1 a2 a3 a4 : Addr × Obj} {rest : List (Addr × Obj)} (N : News h₀ L h (a0 :: a1 :: a2 :: a3 :: a4 :: rest)) : News h₀ L h (a2 :: a1 :: a3 :: a4 :: rest) := by
  intro p hp
  refine N p ?_
  simp only [List.mem_cons] at hp ⊢
  grind only
theorem Mine.pk_5_01234 {h₀ h : Heap} {L : Addr} {a0 a1 a2 a3 a4 : Addr × Obj} {rest : List (Addr × Obj)} (N : News h₀ L h (a0 :: a1 :: a2 :: a3 :: a4 :: rest)) : News h₀ L h (a0 :: a1 :: a2 :: a3 :: a4 :: rest) := by
  intro p hp
  refine N p ?_
  simp only [List.mem_cons] at hp ⊢
  grind only
namespace Mine
-- NOLIA
theorem words_L30 : True := by
  k_with_none
  k_with "exec If" => (k_here; (with_reducible refine wpAny_If ?_); (refine fold_Q1 ?_; intro qk8w))
  k_with "exec Assign" => (k_here; (refine wpAny_Assign_Name ?_); (refine fold_Q1 ?_; intro qk8w))
  k_with "exec Return some" => (k_here; (refine wpAny_Return_some ?_); (refine fold_Q1 ?_; intro qk8w))
  k_with "eval Name" => (k_here; name_kind "globalImplicit"; (fail_if_success (with_reducible show wpAny _ _ (eval _ (compEnvC _ _ _ _)) _ _ _)); k_dflt (first | (name_is_builtin; refine' nameX_B ?Fw9 ?Xw9 ?Tw9 ?ew9 ?vw9 ?nw9 ?_ ?aw9 ?bw9; (case Fw9 => k_asm); (case Xw9 => k_asm); (case Tw9 => k_asm); (case aw9 => rfl); (case bw9 => rfl); (case ew9 => k_is); (case vw9 => boot_fast); (case nw9 => decide); k_whole) | (refine' nameX_K ?Fw9 ?Xw9 ?Tw9 ?ew9 ?_ ?aw9 ?bw9; (case Fw9 => k_asm); (case Xw9 => k_asm); (case Tw9 => k_asm); (case aw9 => rfl); (case bw9 => rfl); (case ew9 => k_is); k_whole)))
  k_with "eval Name" => (k_here; name_kind "local"; (fail_if_success (with_reducible show wpAny _ _ (eval _ (compEnvC _ _ _ _)) _ _ _)); k_dflt (refine' nameX_L ?Fw9 ?vw9 ?_ ?aw9 ?bw9; (case Fw9 => k_asm); (case aw9 => rfl); (case bw9 => rfl); (case vw9 => rfl); k_whole))
  k_with "eval Attribute Name" => (k_here; k_dflt (refine' own_L ?Fw9 ?Xw9 ?vw9 ?Nw9 ?iw9 ?jw9 ?k4w9 ?k5w9 ?k6w9 ?k7w9 ?k8w9 ?k9w9 ?_ ?aw9 ?bw9 ?cw9; (case Fw9 => k_asm); (case Xw9 => k_asm); (case aw9 => rfl); (case bw9 => rfl); (case cw9 => exact rfl); (case vw9 => rfl); (case Nw9 => k_asm); (case iw9 => k_mem); (case jw9 => k_mem); (case k4w9 => k_is); (case k5w9 => k_is); (case k6w9 => k_is); (case k7w9 => k_is); (case k8w9 => k_get); (case k9w9 => k_handed); k_whole))
  k_with "getAttr ref" => (k_here; k_dflt (refine' get_own ?k1w9 ?k2w9 ?k3w9 ?k4w9 ?k5w9 ?k6w9 ?k7w9 ?k8w9 ?k9w9 ?_; (case k1w9 => k_asm); (case k2w9 => k_asm); (case k3w9 => k_inst); (case k4w9 => k_is); (case k5w9 => k_is); (case k6w9 => k_is); (case k7w9 => k_is); (case k8w9 => k_get); (case k9w9 => k_handed); k_whole))
  k_with "ite" => (first | with_reducible refine ite_tt ?_ | with_reducible refine ite_ff ?_ | with_reducible refine ite_True_then ?_)
  k_with "WhlIf" => (first | (refine WhlIf.yes (by (simp only [decide_eq_true_eq]; omega)) ?_) | (refine WhlIf.no (by (simp only [decide_eq_false_iff_not]; omega)) ?_))
  k_with "subscriptTail" => (k_here; (with_reducible show wpAny _ _ (subscriptTail _ (PySem.Expr.Slice _ _ none _) (Value.bytes (List.toArray _) _) (Value.ref _)) _ _ _); (with_reducible rename Fr _ _ _ _ => F'w); (with_reducible rename News _ _ _ _ => N'w); first | (refine bslice_ij (s := ⟨_, _, _, _, _⟩) F'w N'w (by omega) (by omega) (by omega) (by first | with_reducible assumption | exact rfl) ?_; intro h'w t'w k'w F'w N'w; (try k_sweep)) | (refine bslice_j (s := ⟨_, _, _, _, _⟩) F'w N'w (by omega) (by omega) (by first | with_reducible assumption | exact rfl) ?_; intro h'w t'w k'w F'w N'w; (try k_sweep)) | (refine bslice_i (s := ⟨_, _, _, _, _⟩) F'w N'w (by omega) (by omega) (by first | with_reducible assumption | exact rfl) ?_; intro h'w t'w k'w F'w N'w; (try k_sweep)))
  k_with "exec Raise some none" => (k_here; (with_reducible show wpAny _ _ (exec (Stmt.Raise (some (PySem.Expr.Call (PySem.Expr.Name _ _) [_] [] _)) none _) _) _ _ _); k_dflt (refine' Raise_bad ?Fw9 ?Xw9 ?Tw9 ?hw9 ?_ ?ew9 ?kw9 ?xw9; (case Fw9 => k_asm); (case Xw9 => k_asm); (case Tw9 => k_asm); (case hw9 => rfl); (case ew9 => rfl); (case kw9 => rfl); (case xw9 => rfl); k_whole))
  k_with "RaiseB" => (k_dflt (refine' raise_here ?Bw9 ?Fw9 ?Xw9 ?Nw9 ?Tw9 ?kw9 ?dw9 ?_; (case Bw9 => k_asm); (case Fw9 => k_asm); (case Xw9 => k_asm); (case Nw9 => k_asm); (case Tw9 => k_asm); (case kw9 => rfl); (case dw9 => ktr_room)); intro e9w dd9w tk9w k9w h9w R9w U9w)
  k_with "leaving ref" => (k_here; (refine' raise_next ?Kw9 ?Fw9 ?Rw9 ?Uw9 ?_; (case Rw9 => assumption); (case Kw9 => assumption); (case Uw9 => assumption); (case Fw9 => assumption)); intro h9w R9w U9w)
  k_with "compareOp NotIn bytes ref" => (k_here; k_dflt (refine' notin_signs ?Nw9 ?tw9 ?iw9 ?_; (case Nw9 => k_asm); (case tw9 => k_mem); (case iw9 => first | assumption | exact .cons .nil | exact .cons (.cons .nil) | exact .cons (.cons (.cons .nil))); k_whole))
  k_with "call ref" => (k_here; (with_reducible show wpAny _ _ (call (Value.ref _) _ _) _ _ _); (fail_if_success (with_reducible show wpAny _ _ (call (Value.ref 78) _ _) _ _ _)); (fail_if_success (with_reducible show wpAny _ _ (call (Value.ref 175) _ _) _ _ _)); refine stop_of ?_)
  k_with "UnrEnd" => (k_here; (refine' unr_keep ?Fw9 ?Nw9 ?ow9 ?_; (case Fw9 => assumption); (case Nw9 => k_asm); (case ow9 => exact fun p hp => Nat.ne_of_lt ((by assumption : ∀ p ∈ _, p.1 < _) p hp)); k_whole))
  k_with "exec While BoolOp" => (k_here; k_dflt (refine whl_start 100 ?_))
  k_with "execs cons" => (k_here; (try k_gentoks); (try (refine fold_Q ?_; intro qk9w ek9w)); (with_reducible refine wpAny_execs_cons ?_); (try dsimp only))
  k_with "storeName" => (k_here; k_dflt (refine' storeX_M ?Fw9 ?Nw9 ?_ ?aw9 ?bw9; (case Fw9 => k_asm); (case Nw9 => k_asm); (case aw9 => rfl); (case bw9 => rfl); k_whole; intro m9w h'w t9w F'w N'w; (try k_sweep); (try dsimp only)))
  k_with "storeName" => (k_here; (first | with_reducible refine tok_intA ?_ | with_reducible refine tok_intS ?_ | with_reducible refine tok_bytA ?_ | with_reducible refine tok_bytS ?_); intro t9w)
  k_with "call builtin:list.append" => (k_here; (first | with_reducible refine tok_appA ?_ | with_reducible refine tok_appS ?_); intro t9w)
  k_with "call ref" => (k_here; (with_reducible show wpAny _ _ (call (Value.ref 78) _ _) _ _ _); refine stop_of ?_)
  k_with "callWith ref" => (k_here; (with_reducible show wpAny _ _ (callWith _ (Value.ref _) _ (backTo _ (starEach [] _)) []) _ _ _); k_dflt (refine' callWith_K0 ?k1w9 ?k2w9 ?_; (case k1w9 => k_in); (case k2w9 => k_is); k_whole))
  k_with "exec While Name" => (k_here; refine stop_of ?_)
  k_with "subscriptTail" => (k_here; (with_reducible show wpAny _ _ (subscriptTail _ _ (Value.ref _) (Value.str _ _)) _ _ _); k_dflt (refine kda_item (knd := PySem.strKind _ _) (by k_asm) (by k_mem) (by assumption) (strKind_is _ _ _ _) (by rfl) ?_))
  k_with "setItem ref str" => (k_here; k_dflt (refine' kda_set (knd := PySem.strKind _ _) ?Fw9 ?Nw9 ?Uw9 ?dw9 (strKind_is _ _ _ _) ?zw9 ?_; (case Fw9 => k_asm); (case Nw9 => k_asm); (case Uw9 => k_updF); (case dw9 => assumption); (case zw9 => rw [sizeLine_eq]; exact Nat.le_of_ble_eq_true (by with_unfolding_all rfl))); intro h'w o'w F'w N'w hd'w; (try dsimp only at N'w))
  k_with "call builtin:len" => (k_here; k_dflt (refine i_len (by k_asm) (by k_mem) (by assumption) (by omega) ?_))
  k_with "exec For Name Name cons nil" => (k_here; (rename Fr _ _ _ _ => lF'w); (with_unfolding_all refine' For_invVF lF'w ?k1w9 ?k2w9 ?_; (case k1w9 => exact rfl); (case k2w9 => exact rfl); k_whole))
  trivial
inductive MkIn : Prop where | mk
inductive MkIf : Prop where | mk
inductive MkFor : Prop where | mk
theorem words_L31 : True := by
  k_with "pyIter ref" => (k_here; (with_reducible show wpAny _ _ (pyIter _) (fun it s₂ => LoopAtV _ _ _ _ _ (Str.ofString "one") _ _ _ it s₂) _ _); refine stop_of ?_)
  k_with "exec For Name Call cons nil" => (k_here; (with_reducible rename MkFor => hFr9w); refine stop_of ?_)
  k_with "eval IfExp" => (k_here; (fail_if_success (with_reducible rename MkIn => hIn9w)); refine stop_of ?_)
  k_with "exec If" => (k_here; (with_reducible rename MkIf => hMk9w); (fail_if_success (with_reducible rename MkIn => hIn9w)); refine stop_of ?_)
  trivial
theorem above2 {a l : Addr} {oa ol : Obj} {base : Led} (h : AllLt l base) (h1 : @LT.lt Nat _ l a) : Above [(a, oa), (l, ol)] base := by
  refine above_of h fun q hq => ?_
  simp only [List.mem_cons, List.not_mem_nil, or_false] at hq
  rcases hq with rfl | rfl
  · exact Nat.le_of_lt h1
  · exact Nat.le_refl _
theorem dat_ref {new : Led} {r : Value} {t : T} (h : DatIn new r t.dat) : ∃ a, r = .ref a := by
  obtain ⟨ds, e⟩ : ∃ ds, t.dat = .tuple ds := by cases t <;> exact ⟨_, rfl⟩
  rw [e] at h
  cases h
  exact ⟨_, rfl⟩
theorem reo3 {h₀ h : Heap} {L : Addr} {a b c d e : Addr × Obj} {n r : Led} (N : News h₀ L h (d :: e :: (n ++ (a :: b :: c :: r)))) : News h₀ L h (a :: b :: c :: d :: e :: (n ++ r)) := by
  intro p hp
  refine N p ?_
  simp only [List.mem_cons, List.mem_append] at hp ⊢
  grind only
theorem Tr.cast {d : Nat} {row : Bool} {w h x y x' y' n k : Int} {t : T} (H : Tr d row w h x y n t k) (ex : x = x') (ey : y = y') : Tr d row w h x' y' n t k := by
  subst ex ey
  exact H
theorem endR {h₀ h : Heap} {L : Addr} {t s p d e : Addr × Obj} {a r : Led} (N : News h₀ L h (t :: s :: p :: d :: e :: (a ++ r))) : News h₀ L h (d :: e :: ((t :: p :: a) ++ r)) := by
  intro q hq
  refine N q ?_
  simp only [List.mem_cons, List.mem_append] at hq ⊢
  grind only
theorem above_box {tp lp : Addr} {ot ol : Obj} {nw base : Led} (h : AllLt lp base) (h1 : @LT.lt Nat _ lp tp) (hn : Above nw base) : Above ((tp, ot) :: (lp, ol) :: nw) base := by
  intro q hq p hp
  rcases List.mem_cons.mp hq with rfl | hq
  · exact Nat.lt_trans (tb_ltOf h p hp) h1
  rcases List.mem_cons.mp hq with rfl | hq
  · exact tb_ltOf h p hp
  exact hn q hq p hp
theorem Above.toBase {new r : Led} {dk pw : Addr} {D1 W1 D W : Obj} {a b c : Addr × Obj} (h : Above new ((dk, D1) :: (pw, W1) :: a :: b :: c :: r)) : Above new ((dk, D) :: (pw, W) :: r) := by
  refine h.sub fun p hp => ?_
  rcases List.mem_cons.mp hp with rfl | hp
  · exact ⟨_, .head _⟩
  rcases List.mem_cons.mp hp with rfl | hp
  · exact ⟨_, .tail _ (.head _)⟩
  exact ⟨_, .tail _ (.tail _ (.tail _ (.tail _ (.tail _ hp))))⟩
/-- three names of the frame's map brought to its front -/
theorem canon3 {m : Str → Option Value} {a b c : Str} {va vb vc : Option Value} (ha : m a = va) (hb : m b = vb) (hc : m c = vc) : m = fun z => if z = a then va else if z = b then vb else if z = c then vc else m z := by
  funext z
  split
  · subst z; exact ha
  split
  · subst z; exact hb
  split
  · subst z; exact hc
  rfl
theorem canon3s {m : Str → Option Value} {a b c : Str} {va vb vc va' vb' vc' : Option Value} : (fun z => if z = a then va' else if z = b then vb' else if z = c then vc' else if z = a then va else if z = b then vb else if z = c then vc else m z) = fun z => if z = a then va' else if z = b then vb' else if z = c then vc' else m z := by
  funext z
  split
  · rfl
  split
  · rfl
  split
  · rfl
  rfl
theorem rest_cast {prog : Program} {w : World} {A : Around} {E : Value → Shared → Prop} {h₀ : Heap} {env : Env} {x : Str} {body : List Stmt} {Q : Flow → Shared → Prop} {s : Shared} {I : Addr} {lp : Addr × Obj} {vs : List Value} {m m' : Str → Option Value} {news : Led} (e : m' = m)
    (h : ListRest prog w A E h₀ env x body Q s I lp vs m news) : ListRest prog w A E h₀ env x body Q s I lp vs m' news := e ▸ h
theorem canon2 {m : Str → Option Value} {a b : Str} {va vb : Option Value} (ha : m a = va) (hb : m b = vb) : m = fun z => if z = a then va else if z = b then vb else m z := by
  funext z
  split
  · subst z; exact ha
  split
  · subst z; exact hb
  rfl
theorem canon2s {m : Str → Option Value} {a b : Str} {va vb va' vb' : Option Value} : (fun z => if z = a then va' else if z = b then vb' else if z = a then va else if z = b then vb else m z) = fun z => if z = a then va' else if z = b then vb' else m z := by
  funext z
  split
  · rfl
  split
  · rfl
  rfl
theorem Fr.cast {h₀ h : Heap} {L : Addr} {m m' : Str → Option Value} (F : Fr h₀ L h m') (e : m' = m) : Fr h₀ L h m := e ▸ F
/-- the sides with a border behind each -/
def sumL : List Int → Int
  | [] => 0
  | x :: xs => x + 1 + sumL xs
theorem sumL_pos : ∀ {ss : List Int}, (∀ x ∈ ss, 1 ≤ x) → 0 ≤ sumL ss
  | [], _ => Int.le_refl 0
  | x :: xs, h => by
    have := sumL_pos fun y hy => h y (.tail _ hy)
    have := h x (.head _)
    simp only [sumL]
    lia
theorem sumL_snoc : ∀ (ss : List Int) (x : Int), sumL (ss ++ [x]) = sumL ss + x + 1
  | [], x => by simp only [List.nil_append, sumL]; lia
  | y :: ys, x => by
    have := sumL_snoc ys x
    simp only [List.cons_append, sumL]
    lia
/-- what drawing the rest may take -/
def bud (c : Int) : List Int → Int
  | [] => 0
  | _ :: xs => c + bud c xs
theorem bud_pos {c : Int} (h : 0 ≤ c) : ∀ ss : List Int, 0 ≤ bud c ss
  | [] => Int.le_refl 0
  | _ :: xs => by
    have := bud_pos h xs
    simp only [bud]
    lia
theorem bud_le {c : Int} (h : 0 ≤ c) : ∀ ss : List Int, ss.length ≤ 3 → bud c ss ≤ 3 * c
  | [], _ => by simp only [bud]; lia
  | [_], _ => by simp only [bud]; lia
  | [_, _], _ => by simp only [bud]; lia
  | [_, _, _], _ => by simp only [bud]; lia
  | _ :: _ :: _ :: _ :: _, h => by simp only [List.length_cons] at h; lia
def TrL (d : Nat) (row : Bool) (wd hg x y : Int) : List T → Int → Int → Int → Int → Prop
  | [], AT, n, AT', n' => AT = AT' ∧ n = n'
  | t :: ts, AT, n, AT', n' => ∃ S n1, 1 ≤ S ∧ Tr d (!row) (if row = true then S else wd) (if row = true then hg else S) (if row = true then x + AT else x) (if row = true then y else y + AT) n t n1 ∧ TrL d row wd hg x y ts (AT + S + 1) n1 AT' n'
theorem TrL.snoc {d : Nat} {row : Bool} {wd hg x y S n1 : Int} {t : T} : ∀ {ts : List T} {AT n AT' n' : Int}, TrL d row wd hg x y ts AT n AT' n' → 1 ≤ S → Tr d (!row) (if row = true then S else wd) (if row = true then hg else S) (if row = true then x + AT' else x) (if row = true then y else y + AT') n' t n1 →
    TrL d row wd hg x y (ts ++ [t]) AT n (AT' + S + 1) n1
  | [], _, _, _, _, ⟨e1, e2⟩, hS, H => by subst e1 e2; exact ⟨S, n1, hS, H, rfl, rfl⟩
  | _ :: _, _, _, _, _, ⟨S', m, h1, h2, h3⟩, hS, H => ⟨S', m, h1, h2, h3.snoc hS H⟩
theorem box_dat {row : Bool} {wd hg x y : Int} : ∀ {ts : List T} {t : T}, T.box row wd hg x y ts = some t → t.dat = .tuple [.str (kindS row), .int wd, .int hg, .int x, .int y, .list (ts.map T.dat), .none]
  | [_, _], _, rfl => rfl
  | [_, _, _], _, rfl => rfl
theorem pos1 {p : Int} (h : 0 ≤ p) : ∀ x ∈ [1 + p], 1 ≤ x := by
  intro x hx
  rw [List.mem_singleton.mp hx]
  lia
theorem pos2 {p q : Int} (h : 0 ≤ p) (h2 : 0 ≤ q) : ∀ x ∈ [1 + p, 1 + q], 1 ≤ x := by
  intro x hx
  rcases List.mem_cons.mp hx with rfl | hx
  · lia
  exact pos1 h2 x hx
theorem pos_snoc {ss : List Int} {l : Int} (h : ∀ x ∈ ss, 1 ≤ x) (hl : 0 ≤ l) : ∀ x ∈ ss ++ [1 + l], 1 ≤ x := fun x hx => (List.mem_append.mp hx).elim (h x) (pos1 hl x)
theorem ints_snoc {vs : List Value} {ss : List Int} {n : Int} {t : Tok} (h : IntsAre vs ss) : IntsAre (vs ++ [.int n t]) (ss ++ [n]) := by
  induction h with
  | nil => exact .cons _ _ .nil
  | cons _ _ _ ih => exact .cons _ _ ih
theorem above_turn {nw cn rest : Led} {dk pw i sl pl : Addr} {D0 W0 oi os op d1 d2 d3 d4 d5 : Obj} (h : Above nw ((dk, D0) :: (pw, W0) :: (i, oi) :: (sl, os) :: (pl, op) :: (cn ++ rest))) : Above nw ((dk, d1) :: (pw, d2) :: (i, d3) :: (sl, d4) :: (pl, d5) :: rest) := by
  refine h.sub fun p hp => ?_
  rcases List.mem_cons.mp hp with rfl | hp
  · exact ⟨_, .head _⟩
  rcases List.mem_cons.mp hp with rfl | hp
  · exact ⟨_, .tail _ (.head _)⟩
  rcases List.mem_cons.mp hp with rfl | hp
  · exact ⟨_, .tail _ (.tail _ (.head _))⟩
  rcases List.mem_cons.mp hp with rfl | hp
  · exact ⟨_, .tail _ (.tail _ (.tail _ (.head _)))⟩
  rcases List.mem_cons.mp hp with rfl | hp
  · exact ⟨_, .tail _ (.tail _ (.tail _ (.tail _ (.head _))))⟩
  exact ⟨_, .tail _ (.tail _ (.tail _ (.tail _ (.tail _ (List.mem_append.mpr (.inr hp))))))⟩
structure TS where
  AT : Int
  n : Int
  at9 : Int
  tA : Tok
  ov : Option Value
  its : List Value
  kn : Nat
  ts : List T
  D : Obj
  W : Obj
  nw : Led
structure Inv (w : World) (cl : Addr) (d : Nat) (row : Bool) (wd hg x y n0 sd at0 hi : Int) (base : Led) (ss : List Int) (c : TS) : Prop where
  pos : ∀ s ∈ ss, 1 ≤ s
  sum : c.AT + sumL ss = sd + 1
  a0 : 0 ≤ c.AT
  lo : at0 ≤ c.at9
  cost : c.at9 + bud (cost d) ss ≤ hi
  max : c.n + bud (maxP d) ss ≤ 100
  n00 : 0 ≤ c.n
  tr : TrL d row wd hg x y c.ts 0 n0 c.AT c.n
  dat : DatAll c.nw c.its (c.ts.map T.dat)
  len : c.its.length ≤ 3 - ss.length
  two : 2 ≤ c.ts.length + ss.length
  le3 : c.ts.length + ss.length ≤ 3
  ab : Above c.nw base
  hD : IsDeck w c.D cl c.at9
  hW : IsPw w c.W c.n
theorem sides_loop {σ : Type} {prog : Program} {w : World} {A : Around} {E : Value → Shared → Prop} {h₀ : Heap} {env : Env} {x : Str} {body : List Stmt} {Q : Flow → Shared → Prop} {s : Shared} {I : Addr} {lp : Addr × Obj} {M : σ → Str → Option Value} {led : σ → Led} {PP : List Int → σ → Prop}
   (hz : ∀ c, PP [] c → ListRest prog w A E h₀ env x body Q s I lp [] (M c) (led c))
   (hs : ∀ S ss t vs c, PP (S :: ss) c → (∀ c', PP ss c' → ListRest prog w A E h₀ env x body Q s I lp vs (M c') (led c')) → ListRest prog w A E h₀ env x body Q s I lp (.int S t :: vs) (M c) (led c)) :
   ∀ {vs : List Value} {ss : List Int}, IntsAre vs ss → ∀ c, PP ss c → ListRest prog w A E h₀ env x body Q s I lp vs (M c) (led c) := by
  intro vs ss h
  induction h with
  | nil => exact hz
  | cons _ _ _ ih => exact fun c hp => hs _ _ _ _ c hp ih
theorem sides_loop2 {prog : Program} {w : World} {A : Around} {E : Value → Shared → Prop} {h₀ : Heap} {env : Env} {xx : Str} {body : List Stmt} {Q : Flow → Shared → Prop} {s : Shared} {cl : Addr} {d : Nat} {row : Bool} {wd hg x y n sd at0 hi : Int} {m9 : Str → Option Value} {sl pl dk pw I : Addr} {so : Obj} {rest : Led}
   (hz : ∀ c, Inv w cl d row wd hg x y n sd at0 hi ((dk, so) :: (pw, so) :: (I, so) :: (sl, so) :: (pl, so) :: rest) [] c → ListRest prog w A E h₀ env xx body Q s I (sl, so) [] (fun z => if z = Str.ofString "at" then some (.int c.AT c.tA) else if z = Str.ofString "one" then c.ov else m9 z) ((sl, so) :: (pl, W.listOf c.its.toArray c.kn) :: (dk, c.D) :: (pw, c.W) :: (c.nw ++ rest)))
   (hs : ∀ S ss t vs c, Inv w cl d row wd hg x y n sd at0 hi ((dk, so) :: (pw, so) :: (I, so) :: (sl, so) :: (pl, so) :: rest) (S :: ss) c → (∀ c', Inv w cl d row wd hg x y n sd at0 hi ((dk, so) :: (pw, so) :: (I, so) :: (sl, so) :: (pl, so) :: rest) ss c' → ListRest prog w A E h₀ env xx body Q s I (sl, so) vs (fun z => if z = Str.ofString "at" then some (.int c'.AT c'.tA) else if z = Str.ofString "one" then c'.ov else m9 z) ((sl, so) :: (pl, W.listOf c'.its.toArray c'.kn) :: (dk, c'.D) :: (pw, c'.W) :: (c'.nw ++ rest))) → ListRest prog w A E h₀ env xx body Q s I (sl, so) (.int S t :: vs) (fun z => if z = Str.ofString "at" then some (.int c.AT c.tA) else if z = Str.ofString "one" then c.ov else m9 z) ((sl, so) :: (pl, W.listOf c.its.toArray c.kn) :: (dk, c.D) :: (pw, c.W) :: (c.nw ++ rest))) :
   ∀ {vs : List Value} {ss : List Int}, IntsAre vs ss → ∀ c, Inv w cl d row wd hg x y n sd at0 hi ((dk, so) :: (pw, so) :: (I, so) :: (sl, so) :: (pl, so) :: rest) ss c → ListRest prog w A E h₀ env xx body Q s I (sl, so) vs (fun z => if z = Str.ofString "at" then some (.int c.AT c.tA) else if z = Str.ofString "one" then c.ov else m9 z) ((sl, so) :: (pl, W.listOf c.its.toArray c.kn) :: (dk, c.D) :: (pw, c.W) :: (c.nw ++ rest)) := sides_loop hz hs
/-- what drawing a tree gives back -/
def TreeOut (w : World) (d : Nat) (row : Bool) (wd hg x y n : Int) (cl : Addr) (at0 : Int) (dk pw : Addr) (D PW : Obj) (rest : Led) (r : Value) (n' : Led) : Prop := ∃ t n1 at1 D' W' new, DatIn new r t.dat ∧ Tr d row wd hg x y n t n1 ∧ IsDeck w D' cl at1 ∧ at0 ≤ at1 ∧ at1 ≤ at0 + cost d ∧ IsPw w W' n1 ∧ n' = (dk, D') :: (pw, W') :: (new ++ rest) ∧ Above new ((dk, D) :: (pw, PW) :: rest)
theorem TreeOut.mk {w : World} {d : Nat} {row : Bool} {wd hg x y n : Int} {cl : Addr} {at0 : Int} {dk pw : Addr} {D PW : Obj} {rest : Led} {r : Value} {t : T} {n1 at1 : Int} {D' W' : Obj} {new : Led} (h1 : DatIn new r t.dat) (h2 : Tr d row wd hg x y n t n1) (h3 : IsDeck w D' cl at1) (h4 : at0 ≤ at1) (h5 : at1 ≤ at0 + cost d) (h6 : IsPw w W' n1) (h7 : Above new ((dk, D) :: (pw, PW) :: rest)) :
    TreeOut w d row wd hg x y n cl at0 dk pw D PW rest r ((dk, D') :: (pw, W') :: (new ++ rest)) := ⟨t, n1, at1, D', W', new, h1, h2, h3, h4, h5, h6, rfl, h7⟩
theorem TreeOut.out {w : World} {d : Nat} {row : Bool} {wd hg x y n : Int} {cl : Addr} {at0 : Int} {dk pw : Addr} {D PW : Obj} {rest : Led} {P : Value → Led → Prop} (k : ∀ t n1 at1 D' W' new r, DatIn new (.ref r) t.dat → Tr d row wd hg x y n t n1 → IsDeck w D' cl at1 → at0 ≤ at1 → at1 ≤ at0 + cost d → IsPw w W' n1 → Above new ((dk, D) :: (pw, PW) :: rest) → P (.ref r) ((dk, D') :: (pw, W') :: (new ++ rest))) :
    ∀ r n', TreeOut w d row wd hg x y n cl at0 dk pw D PW rest r n' → P r n' := by
  rintro r n' ⟨t, n1, at1, D', W', new, h1, h2, h3, h4, h5, h6, rfl, h7⟩
  obtain ⟨r, rfl⟩ := dat_ref h1
  exact k t n1 at1 D' W' new r h1 h2 h3 h4 h5 h6 h7
section
variable {M : Model} {A : Around} {E : Value → Shared → Prop} {s : Shared}
def JI (n : Int) (s : Shared) (v : Value) (s' : Shared) : Prop := ∃ u tk', v = .int n u ∧ s' = { s with toks := tk' }
def JS (x : Str) (s : Shared) (v : Value) (s' : Shared) : Prop := ∃ u tk', v = .str x u ∧ s' = { s with toks := tk' }
theorem join_int {t : Sem Value} {n : Int} {Q : Value → Shared → Prop} (h : wpAny M A t (JI n s) E s) (k : ∀ u tk', Q (.int n u) { s with toks := tk' }) : wpAny M A t Q E s :=
  wpAny_mono h (fun _ _ ⟨u, tk', ev, es⟩ => by subst ev es; exact k u tk') fun _ _ x => x
theorem join_str {t : Sem Value} {x : Str} {Q : Value → Shared → Prop} (h : wpAny M A t (JS x s) E s) (k : ∀ u tk', Q (.str x u) { s with toks := tk' }) : wpAny M A t Q E s :=
  wpAny_mono h (fun _ _ ⟨u, tk', ev, es⟩ => by subst ev es; exact k u tk') fun _ _ x => x
/-- behind the If of a turn: the part's tree is drawn and hung on the list -/
inductive JT (g : Heap) (L : Addr) (m : Str → Option Value) (w : World) (d : Nat) (row : Bool) (cl : Addr) (wd hg x y S AT n0 at0 : Int) (a b : Addr × Obj) (l : Addr) (its : Array Value) (k : Nat) (dk pw : Addr) (D0 W0 : Obj) (R : Led) (s : Shared) : Flow → Shared → Prop
  | mk {t : T} {n1 at1 : Int} {D W1 : Obj} {nw : Led} {r : Addr} {h' : Heap} {tk' : Nat} : Fr g L h' m → News g L h' (a :: b :: (l, PySem.W.listOf (its.push (.ref r)) (k + 1)) :: (dk, D) :: (pw, W1) :: (nw ++ R)) → DatIn nw (.ref r) t.dat → Tr d (!row) (if row = true then S else wd) (if row = true then hg else S) (if row = true then x + AT else x) (if row = true then y else y + AT) n0 t n1 → IsDeck w D cl at1 → at0 ≤ at1 → at1 ≤ at0 + cost d → IsPw w W1 n1 → Above nw ((dk, D0) :: (pw, W0) :: a :: b :: (l, PySem.W.listOf its k) :: R) → JT g L m w d row cl wd hg x y S AT n0 at0 a b l its k dk pw D0 W0 R s .next { s with heap := h', toks := tk' }
theorem join_turn {g : Heap} {L : Addr} {m : Str → Option Value} {w : World} {d : Nat} {row : Bool} {cl : Addr} {wd hg x y S AT n0 at0 : Int} {a b : Addr × Obj} {l : Addr} {its : Array Value} {k : Nat} {dk pw : Addr} {D0 W0 : Obj} {R : Led} {t : Sem Flow} {Q : Flow → Shared → Prop}
    (_F : Fr g L s.heap m) (_N : News g L s.heap (a :: b :: (l, PySem.W.listOf its k) :: (dk, D0) :: (pw, W0) :: R)) (h : wpAny M A t (JT g L m w d row cl wd hg x y S AT n0 at0 a b l its k dk pw D0 W0 R s) E s)
    (kk : ∀ (t : T) (n1 at1 : Int) (D W1 : Obj) (nw : Led) (r : Addr) (h' : Heap) (tk' : Nat), Fr g L h' m → News g L h' (a :: b :: (l, PySem.W.listOf (its.push (.ref r)) (k + 1)) :: (dk, D) :: (pw, W1) :: (nw ++ R)) → DatIn nw (.ref r) t.dat →
      Tr d (!row) (if row = true then S else wd) (if row = true then hg else S) (if row = true then x + AT else x) (if row = true then y else y + AT) n0 t n1 → IsDeck w D cl at1 → at0 ≤ at1 → at1 ≤ at0 + cost d → IsPw w W1 n1 → Above nw ((dk, D0) :: (pw, W0) :: a :: b :: (l, PySem.W.listOf its k) :: R) →
      Q .next { s with heap := h', toks := tk' }) : wpAny M A t Q E s :=
  wpAny_mono h (fun _ _ j => by cases j with | mk a1 a2 a3 a4 a5 a6 a7 a8 a9 => exact kk _ _ _ _ _ _ _ _ _ a1 a2 a3 a4 a5 a6 a7 a8 a9) fun _ _ x => x
theorem rg1 {a s sd : Int} (h : 0 ≤ a ∧ 1 ≤ s ∧ a + s ≤ sd) (h2 : sd ≤ 20) : s ≤ 20 := by lia
theorem rg2 {x a s sd : Int} (hx : 0 ≤ x) (h : 0 ≤ a ∧ 1 ≤ s ∧ a + s ≤ sd) : 0 ≤ x + a := by lia
theorem rg3 {x a s sd z : Int} (hs : z = sd) (hx : x + z ≤ 50) (h : 0 ≤ a ∧ 1 ≤ s ∧ a + s ≤ sd) : x + a + s ≤ 50 := by lia
theorem tr_two {d : Nat} {row : Bool} {wd hg sd x y sa sb ax bx n na nb : Int} {ta tb : T} (hsd : (if row = true then wd else hg) = sd) (e1 : 1 ≤ sa) (e2 : 1 ≤ sb) (e3 : sa + sb + 1 = sd)
    (A : Tr d (!row) (if row = true then sa else wd) (if row = true then hg else sa) (if row = true then x + ax else x) (if row = true then y else y + ax) n ta na)
    (B : Tr d (!row) (if row = true then sb else wd) (if row = true then hg else sb) (if row = true then x + bx else x) (if row = true then y else y + bx) na tb nb) (ea : ax = 0) (eb : bx = sa + 1) : Tr (d + 1) row wd hg x y n (.two row wd hg x y ta tb) nb := by
  subst hsd ea eb
  cases row with
  | true => exact .row2 e1 e2 e3 (A.cast (Int.add_zero x) rfl) B
  | false => exact .col2 e1 e2 e3 (A.cast rfl (Int.add_zero y)) B
theorem tr_three {d : Nat} {row : Bool} {wd hg sd x y sa sb sc ax bx cx n na nb nc : Int} {ta tb tc : T} (hsd : (if row = true then wd else hg) = sd) (e1 : 1 ≤ sa) (e2 : 1 ≤ sb) (e4 : 1 ≤ sc) (e3 : sa + sb + sc + 2 = sd)
    (A : Tr d (!row) (if row = true then sa else wd) (if row = true then hg else sa) (if row = true then x + ax else x) (if row = true then y else y + ax) n ta na)
    (B : Tr d (!row) (if row = true then sb else wd) (if row = true then hg else sb) (if row = true then x + bx else x) (if row = true then y else y + bx) na tb nb)
    (C : Tr d (!row) (if row = true then sc else wd) (if row = true then hg else sc) (if row = true then x + cx else x) (if row = true then y else y + cx) nb tc nc) (ea : ax = 0) (eb : bx = sa + 1) (ec : cx = sa + 1 + sb + 1) : Tr (d + 1) row wd hg x y n (.three row wd hg x y ta tb tc) nc := by
  subst hsd ea eb ec
  cases row with
  | true => exact .row3 e1 e2 e4 e3 (A.cast (Int.add_zero x) rfl) B C
  | false => exact .col3 e1 e2 e4 e3 (A.cast rfl (Int.add_zero y)) B C
theorem trl_box {d : Nat} {row : Bool} {wd hg x y sd n AT n' : Int} (hsd : (if row = true then wd else hg) = sd) {ts : List T} (H : TrL d row wd hg x y ts 0 n AT n') (e : AT = sd + 1) (h2 : 2 ≤ ts.length) (h3 : ts.length ≤ 3) : ∃ t, T.box row wd hg x y ts = some t ∧ Tr (d + 1) row wd hg x y n t n' := by
  rcases ts with _ | ⟨ta, _ | ⟨tb, _ | ⟨tc, _ | ⟨td, r⟩⟩⟩⟩
  · exact absurd h2 (by decide)
  · exact absurd h2 (Nat.not_succ_le_self 1)
  · obtain ⟨S1, n1, p1, A, S2, n2, p2, B, e1, e2⟩ := H
    exact ⟨_, rfl, e2 ▸ tr_two hsd p1 p2 (by lia) A B rfl (by lia)⟩
  · obtain ⟨S1, n1, p1, A, S2, n2, p2, B, S3, n3, p3, C, e1, e2⟩ := H
    exact ⟨_, rfl, e2 ▸ tr_three hsd p1 p2 p3 (by lia) A B C rfl (by lia) (by lia)⟩
  · exact absurd h3 (Nat.not_le_of_lt (Nat.le_add_left 4 r.length))
/-- behind the drawing of the sides -/
inductive JF (w : World) (g : Heap) (L : Addr) (m : Str → Option Value) (cl l dk : Addr) (R : Led) (sd at0 v : Int) (s : Shared) : Flow → Shared → Prop
  | mk {kv mv : Option Value} {lf at1 : Int} {tl : Tok} {ss : List Int} {vs : List Value} {kn : Nat} {D : Obj} {h' : Heap} {tk' : Nat} : Fr g L h' (fun z => if z = Str.ofString "left" then some (.int lf tl) else if z = Str.ofString "more" then mv else if z = Str.ofString "k" then kv else m z) → News g L h' ((l, W.listOf vs.toArray kn) :: (dk, D) :: R) →
      IntsAre vs ss → (∀ x ∈ ss, 1 ≤ x) → 0 ≤ lf → sumL ss + lf = sd - 1 → (ss.length : Int) = 1 + v → IsDeck w D cl at1 → at0 ≤ at1 → at1 ≤ at0 + 2 → JF w g L m cl l dk R sd at0 v s .next { s with heap := h', toks := tk' }
theorem join_for {w : World} {g : Heap} {L : Addr} {m : Str → Option Value} {cl l dk : Addr} {R : Led} {sd at0 v : Int} {t : Sem Flow} {Q : Flow → Shared → Prop} {D0 : Obj} {k0 : Nat} (_F : Fr g L s.heap m) (_N : News g L s.heap ((l, W.listOf #[] k0) :: (dk, D0) :: R)) (h : wpAny M A t (JF w g L m cl l dk R sd at0 v s) E s)
    (k : ∀ kv mv lf at1 tl ss vs kn D h' tk', Fr g L h' (fun z => if z = Str.ofString "left" then some (.int lf tl) else if z = Str.ofString "more" then mv else if z = Str.ofString "k" then kv else m z) → News g L h' ((l, W.listOf vs.toArray kn) :: (dk, D) :: R) →
      IntsAre vs ss → (∀ x ∈ ss, 1 ≤ x) → 0 ≤ lf → sumL ss + lf = sd - 1 → (ss.length : Int) = 1 + v → IsDeck w D cl at1 → at0 ≤ at1 → at1 ≤ at0 + 2 → Q .next { s with heap := h', toks := tk' }) : wpAny M A t Q E s :=
  wpAny_mono h (fun _ _ j => by cases j with | mk a b c d e f g i j o => exact k _ _ _ _ _ _ _ _ _ _ _ a b c d e f g i j o) fun _ _ x => x
end
section
variable {w : World} {mean : ExcName → Option Value} {mg mb : Str → Option Value}
theorem c_tree (cl : Addr) (vs : List Value) (ns : List Int) (nl : Nat) (hvs : DatAll [] vs (dints ns)) (hns : ∀ n ∈ ns, 0 ≤ n ∧ n < 1000000007) (hlen : ns.length ≤ 24) (d : Nat) :
   ∀ (dk pw : Addr) (D PW : Obj) (at0 n wd hg x y dd : Int) (row : Bool) (t1 t2 t3 t4 t5 : Tok) (rest : Led), IsDeck w D cl at0 → IsPw w PW n → (cl, W.listOf vs.toArray nl) ∈ rest → 0 ≤ at0 → at0 + cost d ≤ 100 → 0 ≤ n → n + maxP d ≤ 100 →
     1 ≤ wd → wd ≤ 20 → 1 ≤ hg → hg ≤ 20 → 0 ≤ x → x + wd ≤ 50 → 0 ≤ y → y + hg ≤ 50 → (∀ q ∈ rest, q.1 ≠ dk) → (∀ q ∈ rest, q.1 ≠ pw) → @Ne Nat dk pw → dd = (d : Int) →
   CT w mean mg mb 208 [.ref dk, .int wd t1, .int hg t2, .int x t3, .int y t4, .int dd t5, .bool row, .ref pw] (20 + 20 * d) ((dk, D) :: (pw, PW) :: rest)
     (TreeOut w d row wd hg x y n cl at0 dk pw D PW rest) := by
  induction d with
  | zero =>
    intro dk pw D PW at0 n wd hg x y dd row t1 t2 t3 t4 t5 rest hD hW hcl ha ha2 hn hn2 hw1 hw2 hh1 hh2 hx1 hx2 hy1 hy2 hr1 hr2 hne hdd
    intro dp un gd cn cs a0 ccd cl0 outer A₀ base h₀ L m s Q E B F X N T hk hdp hun hQ
    obtain ⟨u1, hD⟩ := hD
    obtain ⟨u2, hW⟩ := hW
    refine wpAny_call ?_
    k_dflt ktr_enter
    rename Fr _ _ _ _ => lF9
    refine fold_m lF9 ?_
    clear lF9
    intro m9 lF9
    have hc : cost 0 = 2 := rfl
    have hm : maxP 0 = 3 := rfl
    rw [hc] at ha2
    rw [hm] at hn2
    obtain rfl : dd = 0 := hdd
    k_steps
    unfold Stop
    (try (refine fold_Q ?_; intro qk9 ek9))
    refine join_int (n := if row = true then wd else hg) ?_ ?_
    · have hIn : MkIn := .mk
      cases row with
      | true =>
        k_steps
        exact ⟨_, _, rfl, rfl⟩
      | false =>
        k_steps
        exact ⟨_, _, rfl, rfl⟩
    have hsd1 : 1 ≤ (if row = true then wd else hg) ∧ (if row = true then wd else hg) ≤ 20 := by split <;> exact ⟨by assumption, by assumption⟩
    generalize hsd : (if row = true then wd else hg) = sd at hsd1 ⊢
    obtain ⟨hsd1, hsd2⟩ := hsd1
    intro tsd tk9
    k_steps
    unfold Stop
    (try (refine fold_Q ?_; intro qk9 ek9)); k_dflt (refine CT.use (c_draw dk cl _ _ _ _ vs ns nl _ ⟨_, hD⟩ ?hcl hvs hns hlen (by first | assumption | omega) (by omega) (by first | decide | omega) (by first | decide | omega) ?hr) (by k_asm) (by k_asm) (by k_asm) ((pk_2_01 (by k_asm))) (by k_asm) (by first | assumption | exact rfl) (by first | exact room_of hdp (by first | exact Nat.le_of_ble_eq_true rfl | exact Nat.le_add_right_of_le (Nat.le_of_ble_eq_true rfl) | omega) | (simp only [depth_under_make, depth_under_kw, depth_in1, depth_deeper, depth_caller, ktrTop]; omega) | ktr_room) (by first | exact units_of hun (by first | exact Nat.le_of_ble_eq_true rfl | exact Nat.le_add_right_of_le (Nat.le_of_ble_eq_true rfl) | omega) | (simp only [units_in1, units_deeper, Around.mark_units, units_caller, ktrTop]; omega) | ((try simp only [units_in1, units_deeper, Around.mark_units, units_caller] at *); (try dsimp only [ktrTop] at *); omega)) ?_)
    case hcl => k_mem
    case hr => k_all
    refine use3 ?_
    intro h' tk' F' P9 rQ9 nQ9 kQ9
    obtain ⟨v, _, _, er9, v0, v1, ⟨_, hD⟩, en9⟩ := kQ9
    refine eq_rn er9 en9 ?_
    clear er9 en9
    (try clear nQ9)
    (try clear rQ9)
    intro N'
    (try clear P9)
    k_sweep
    k_steps
    unfold Stop
    (try (refine fold_Q ?_; intro qk9 ek9)); k_dflt (refine CT.use (c_draw dk cl _ _ _ _ vs ns nl _ ⟨_, hD⟩ ?hcl hvs hns hlen (by first | assumption | omega) (by omega) (by first | decide | omega) (by first | decide | omega) ?hr) (by k_asm) (by k_asm) (by k_asm) ((pk_3_120 (by k_asm))) (by k_asm) (by first | assumption | exact rfl) (by first | exact room_of hdp (by first | exact Nat.le_of_ble_eq_true rfl | exact Nat.le_add_right_of_le (Nat.le_of_ble_eq_true rfl) | omega) | (simp only [depth_under_make, depth_under_kw, depth_in1, depth_deeper, depth_caller, ktrTop]; omega) | ktr_room) (by first | exact units_of hun (by first | exact Nat.le_of_ble_eq_true rfl | exact Nat.le_add_right_of_le (Nat.le_of_ble_eq_true rfl) | omega) | (simp only [units_in1, units_deeper, Around.mark_units, units_caller, ktrTop]; omega) | ((try simp only [units_in1, units_deeper, Around.mark_units, units_caller] at *); (try dsimp only [ktrTop] at *); omega)) ?_)
    case hcl => k_mem
    case hr => k_all
    refine use3 ?_
    intro h' tk' F' P9 rQ9 nQ9 kQ9
    obtain ⟨z, _, _, er9, z0, z1, ⟨_, hD⟩, en9⟩ := kQ9
    refine eq_rn er9 en9 ?_
    clear er9 en9
    (try clear nQ9)
    (try clear rQ9)
    intro N'
    (try clear P9)
    k_sweep
    k_steps
    refine hQ _ ((dk, _) :: (pw, _) :: ([(_, _), (_, _)] ++ rest)) _ _ (by k_asm) (pk_5_2301 (by k_asm)) (TreeOut.mk (t := .pane wd hg x y (n + 1 + z)) (new := [_, _]) (.tuple (.head _) (.cons (.str _ _) (.cons (.int _ _) (.cons (.int _ _) (.cons (.int _ _) (.cons (.int _ _) (.cons (.list (.tail _ (.head _)) .nil) (.cons (.int _ _) .nil)))))))) (.pane hw1 hh1 (by omega) (by omega)) ⟨_, hD⟩ (by omega) (by omega) ⟨_, by assumption⟩ ?_)
    exact above2 (by tbn_lt) (by tbn_below)
  | succ d ih =>
    intro dk pw D PW at0 n wd hg x y dd row t1 t2 t3 t4 t5 rest hD hW hcl ha ha2 hn hn2 hw1 hw2 hh1 hh2 hx1 hx2 hy1 hy2 hr1 hr2 hne hdd
    intro dp un gd cn cs a0 ccd cl0 outer A₀ base h₀ L m s Q E B F X N T hk hdp hun hQ
    obtain ⟨u1, hD⟩ := hD
    obtain ⟨u2, hW⟩ := hW
    refine wpAny_call ?_
    k_dflt ktr_enter
    rename Fr _ _ _ _ => lF9
    refine fold_m lF9 ?_
    clear lF9
    intro m9 lF9
    have hc : cost (d + 1) = 5 + 3 * cost d := rfl
    have hc2 := cost_pos d
    have hm : maxP (d + 1) = 3 * maxP d := rfl
    have hm2 := maxP_pos d
    rw [hc] at ha2
    rw [hm] at hn2
    have hd0 : ¬ (dd = 0) := by omega
    have hFr : MkFor := .mk
    k_steps
    unfold Stop
    (try (refine fold_Q ?_; intro qk9 ek9))
    refine join_int (n := if row = true then wd else hg) ?_ ?_
    · have hIn : MkIn := .mk
      cases row with
      | true =>
        k_steps
        exact ⟨_, _, rfl, rfl⟩
      | false =>
        k_steps
        exact ⟨_, _, rfl, rfl⟩
    have hsd1 : 1 ≤ (if row = true then wd else hg) ∧ (if row = true then wd else hg) ≤ 20 := by split <;> exact ⟨by assumption, by assumption⟩
    generalize hsd : (if row = true then wd else hg) = sd at hsd1 ⊢
    obtain ⟨hsd1, hsd2⟩ := hsd1
    intro tsd tk9
    k_steps
    unfold Stop
    (try (refine fold_Q ?_; intro qk9 ek9)); k_dflt (refine CT.use (c_draw dk cl _ _ _ _ vs ns nl _ ⟨_, hD⟩ ?hcl hvs hns hlen (by first | assumption | omega) (by omega) (by first | decide | omega) (by first | decide | omega) ?hr) (by k_asm) (by k_asm) (by k_asm) ((pk_2_01 (by k_asm))) (by k_asm) (by first | assumption | exact rfl) (by first | exact room_of hdp (by first | exact Nat.le_of_ble_eq_true rfl | exact Nat.le_add_right_of_le (Nat.le_of_ble_eq_true rfl) | omega) | (simp only [depth_under_make, depth_under_kw, depth_in1, depth_deeper, depth_caller, ktrTop]; omega) | ktr_room) (by first | exact units_of hun (by first | exact Nat.le_of_ble_eq_true rfl | exact Nat.le_add_right_of_le (Nat.le_of_ble_eq_true rfl) | omega) | (simp only [units_in1, units_deeper, Around.mark_units, units_caller, ktrTop]; omega) | ((try simp only [units_in1, units_deeper, Around.mark_units, units_caller] at *); (try dsimp only [ktrTop] at *); omega)) ?_)
    case hcl => k_mem
    case hr => k_all
    refine use3 ?_
    intro h' tk' F' P9 rQ9 nQ9 kQ9
    obtain ⟨v, _, _, er9, v0, v1, ⟨_, hD⟩, en9⟩ := kQ9
    refine eq_rn er9 en9 ?_
    clear er9 en9
    (try clear nQ9)
    (try clear rQ9)
    intro N'
    (try clear P9)
    k_sweep
    k_steps
    · exact absurd (by assumption) hd0
    · skip
      unfold Stop
      (try (refine fold_Q ?_; intro qk9 ek9)); k_dflt (refine CT.use (c_draw dk cl _ _ _ _ vs ns nl _ ⟨_, hD⟩ ?hcl hvs hns hlen (by first | assumption | omega) (by omega) (by first | decide | omega) (by first | decide | omega) ?hr) (by k_asm) (by k_asm) (by k_asm) ((pk_3_120 (by k_asm))) (by k_asm) (by first | assumption | exact rfl) (by first | exact room_of hdp (by first | exact Nat.le_of_ble_eq_true rfl | exact Nat.le_add_right_of_le (Nat.le_of_ble_eq_true rfl) | omega) | (simp only [depth_under_make, depth_under_kw, depth_in1, depth_deeper, depth_caller, ktrTop]; omega) | ktr_room) (by first | exact units_of hun (by first | exact Nat.le_of_ble_eq_true rfl | exact Nat.le_add_right_of_le (Nat.le_of_ble_eq_true rfl) | omega) | (simp only [units_in1, units_deeper, Around.mark_units, units_caller, ktrTop]; omega) | ((try simp only [units_in1, units_deeper, Around.mark_units, units_caller] at *); (try dsimp only [ktrTop] at *); omega)) ?_)
      case hcl => k_mem
      case hr => k_all
      refine use3 ?_
      intro h' tk' F' P9 rQ9 nQ9 kQ9
      obtain ⟨z, _, _, er9, z0, z1, ⟨_, hD⟩, en9⟩ := kQ9
      refine eq_rn er9 en9 ?_
      clear er9 en9
      (try clear nQ9)
      (try clear rQ9)
      intro N'
      (try clear P9)
      k_sweep
      k_steps
      refine hQ _ ((dk, _) :: (pw, _) :: ([(_, _), (_, _)] ++ rest)) _ _ (by k_asm) (pk_5_2301 (by k_asm)) (TreeOut.mk (t := .pane wd hg x y (n + 1 + z)) (new := [_, _]) (.tuple (.head _) (.cons (.str _ _) (.cons (.int _ _) (.cons (.int _ _) (.cons (.int _ _) (.cons (.int _ _) (.cons (.list (.tail _ (.head _)) .nil) (.cons (.int _ _) .nil)))))))) (.pane hw1 hh1 (by omega) (by omega)) ⟨_, hD⟩ (by omega) (by omega) ⟨_, by assumption⟩ ?_)
      exact above2 (by tbn_lt) (by tbn_below)
    unfold Stop
    (try (refine fold_Q ?_; intro qk9 ek9)); k_dflt (refine CT.use (c_draw dk cl _ _ _ _ vs ns nl _ ⟨_, hD⟩ ?hcl hvs hns hlen (by first | assumption | omega) (by omega) (by first | decide | omega) (by first | decide | omega) ?hr) (by k_asm) (by k_asm) (by k_asm) ((pk_3_120 (by k_asm))) (by k_asm) (by first | assumption | exact rfl) (by first | exact room_of hdp (by first | exact Nat.le_of_ble_eq_true rfl | exact Nat.le_add_right_of_le (Nat.le_of_ble_eq_true rfl) | omega) | (simp only [depth_under_make, depth_under_kw, depth_in1, depth_deeper, depth_caller, ktrTop]; omega) | ktr_room) (by first | exact units_of hun (by first | exact Nat.le_of_ble_eq_true rfl | exact Nat.le_add_right_of_le (Nat.le_of_ble_eq_true rfl) | omega) | (simp only [units_in1, units_deeper, Around.mark_units, units_caller, ktrTop]; omega) | ((try simp only [units_in1, units_deeper, Around.mark_units, units_caller] at *); (try dsimp only [ktrTop] at *); omega)) ?_)
    case hcl => k_mem
    case hr => k_all
    refine use3 ?_
    intro h' tk' F' P9 rQ9 nQ9 kQ9
    obtain ⟨u, _, _, er9, u0, u1, ⟨_, hD⟩, en9⟩ := kQ9
    refine eq_rn er9 en9 ?_
    clear er9 en9
    (try clear nQ9)
    (try clear rQ9)
    intro N'
    (try clear P9)
    k_sweep
    k_steps
    · skip
      unfold Stop
      (try (refine fold_Q ?_; intro qk9 ek9)); k_dflt (refine CT.use (c_draw dk cl _ _ _ _ vs ns nl _ ⟨_, hD⟩ ?hcl hvs hns hlen (by first | assumption | omega) (by omega) (by first | decide | omega) (by first | decide | omega) ?hr) (by k_asm) (by k_asm) (by k_asm) ((pk_2_01 (by k_asm))) (by k_asm) (by first | assumption | exact rfl) (by first | exact room_of hdp (by first | exact Nat.le_of_ble_eq_true rfl | exact Nat.le_add_right_of_le (Nat.le_of_ble_eq_true rfl) | omega) | (simp only [depth_under_make, depth_under_kw, depth_in1, depth_deeper, depth_caller, ktrTop]; omega) | ktr_room) (by first | exact units_of hun (by first | exact Nat.le_of_ble_eq_true rfl | exact Nat.le_add_right_of_le (Nat.le_of_ble_eq_true rfl) | omega) | (simp only [units_in1, units_deeper, Around.mark_units, units_caller, ktrTop]; omega) | ((try simp only [units_in1, units_deeper, Around.mark_units, units_caller] at *); (try dsimp only [ktrTop] at *); omega)) ?_)
      case hcl => k_mem
      case hr => k_all
      refine use3 ?_
      intro h' tk' F' P9 rQ9 nQ9 kQ9
      obtain ⟨z, _, _, er9, z0, z1, ⟨_, hD⟩, en9⟩ := kQ9
      refine eq_rn er9 en9 ?_
      clear er9 en9
      (try clear nQ9)
      (try clear rQ9)
      intro N'
      (try clear P9)
      k_sweep
      k_steps
      refine hQ _ ((dk, _) :: (pw, _) :: ([(_, _), (_, _)] ++ rest)) _ _ (by k_asm) (pk_5_2301 (by k_asm)) (TreeOut.mk (t := .pane wd hg x y (n + 1 + z)) (new := [_, _]) (.tuple (.head _) (.cons (.str _ _) (.cons (.int _ _) (.cons (.int _ _) (.cons (.int _ _) (.cons (.int _ _) (.cons (.list (.tail _ (.head _)) .nil) (.cons (.int _ _) .nil)))))))) (.pane hw1 hh1 (by omega) (by omega)) ⟨_, hD⟩ (by omega) (by omega) ⟨_, by assumption⟩ ?_)
      exact above2 (by tbn_lt) (by tbn_below)
    unfold Stop
    rename MkFor => hFr9
    clear hFr9
    (try (refine fold_Q ?_; intro qk9 ek9))
    rename Fr _ _ _ _ => lF9
    rename News _ _ _ _ => lN9
    refine join_for (cl := cl) (v := v) (sd := sd) (at0 := at0 + 1 + 1) (w := w) lF9 (pk_5_123 lN9) ?hj ?_
    case hj =>
      k_steps
      · skip
        have hv : v = 1 := by omega
        subst hv
        unfold Stop
        (try (refine fold_Q ?_; intro qk9 ek9)); k_dflt (refine CT.use (c_draw dk cl _ _ _ _ vs ns nl _ ⟨_, hD⟩ ?hcl hvs hns hlen (by first | assumption | omega) (by omega) (by first | decide | omega) (by first | decide | omega) ?hr) (by k_asm) (by k_asm) (by k_asm) ((pk_5_34012 (by k_asm))) (by k_asm) (by first | assumption | exact rfl) (by first | exact room_of hdp (by first | exact Nat.le_of_ble_eq_true rfl | exact Nat.le_add_right_of_le (Nat.le_of_ble_eq_true rfl) | omega) | (simp only [depth_under_make, depth_under_kw, depth_in1, depth_deeper, depth_caller, ktrTop]; omega) | ktr_room) (by first | exact units_of hun (by first | exact Nat.le_of_ble_eq_true rfl | exact Nat.le_add_right_of_le (Nat.le_of_ble_eq_true rfl) | omega) | (simp only [units_in1, units_deeper, Around.mark_units, units_caller, ktrTop]; omega) | ((try simp only [units_in1, units_deeper, Around.mark_units, units_caller] at *); (try dsimp only [ktrTop] at *); omega)) ?_)
        case hcl => k_mem
        case hr => k_all
        refine use3 ?_
        intro h' tk' F' P9 rQ9 nQ9 kQ9
        obtain ⟨p, _, _, er9, p0, p1, ⟨_, hD⟩, en9⟩ := kQ9
        refine eq_rn er9 en9 ?_
        clear er9 en9
        (try clear nQ9)
        (try clear rQ9)
        intro N'
        (try clear P9)
        k_sweep
        k_steps
        refine unr_keep (by assumption) (pk_6_201345 (by assumption)) (by k_all) ?_
        k_steps
        unfold Stop
        (try (refine fold_Q ?_; intro qk9 ek9)); k_dflt (refine CT.use (c_draw dk cl _ _ _ _ vs ns nl _ ⟨_, hD⟩ ?hcl hvs hns hlen (by first | assumption | omega) (by omega) (by first | decide | omega) (by first | decide | omega) ?hr) (by k_asm) (by k_asm) (by k_asm) ((pk_6_120345 (by k_asm))) (by k_asm) (by first | assumption | exact rfl) (by first | exact room_of hdp (by first | exact Nat.le_of_ble_eq_true rfl | exact Nat.le_add_right_of_le (Nat.le_of_ble_eq_true rfl) | omega) | (simp only [depth_under_make, depth_under_kw, depth_in1, depth_deeper, depth_caller, ktrTop]; omega) | ktr_room) (by first | exact units_of hun (by first | exact Nat.le_of_ble_eq_true rfl | exact Nat.le_add_right_of_le (Nat.le_of_ble_eq_true rfl) | omega) | (simp only [units_in1, units_deeper, Around.mark_units, units_caller, ktrTop]; omega) | ((try simp only [units_in1, units_deeper, Around.mark_units, units_caller] at *); (try dsimp only [ktrTop] at *); omega)) ?_)
        case hcl => k_mem
        case hr => k_all
        refine use3 ?_
        intro h' tk' F' P9 rQ9 nQ9 kQ9
        obtain ⟨q, _, _, er9, q0, q1, ⟨_, hD⟩, en9⟩ := kQ9
        refine eq_rn er9 en9 ?_
        clear er9 en9
        (try clear nQ9)
        (try clear rQ9)
        intro N'
        (try clear P9)
        k_sweep
        k_steps
        refine unr_keep (by assumption) (pk_6_201345 (by assumption)) (by k_all) ?_
        k_steps
        exact JF.mk (vs := [_, _]) (Fr.cast (by k_asm) canon3s) (pk_5_301 (by k_asm)) (.cons (1 + p) _ (.cons (1 + q) _ .nil)) (pos2 p0 q0) (by omega) (by simp only [sumL]; omega) rfl ⟨_, hD⟩ (by omega) (by omega)
      · exact absurd (by assumption : 2 + v - 1 = 0) (by omega)
      · skip
        have hv : v = 0 := by omega
        subst hv
        unfold Stop
        (try (refine fold_Q ?_; intro qk9 ek9)); k_dflt (refine CT.use (c_draw dk cl _ _ _ _ vs ns nl _ ⟨_, hD⟩ ?hcl hvs hns hlen (by first | assumption | omega) (by omega) (by first | decide | omega) (by first | decide | omega) ?hr) (by k_asm) (by k_asm) (by k_asm) ((pk_5_34012 (by k_asm))) (by k_asm) (by first | assumption | exact rfl) (by first | exact room_of hdp (by first | exact Nat.le_of_ble_eq_true rfl | exact Nat.le_add_right_of_le (Nat.le_of_ble_eq_true rfl) | omega) | (simp only [depth_under_make, depth_under_kw, depth_in1, depth_deeper, depth_caller, ktrTop]; omega) | ktr_room) (by first | exact units_of hun (by first | exact Nat.le_of_ble_eq_true rfl | exact Nat.le_add_right_of_le (Nat.le_of_ble_eq_true rfl) | omega) | (simp only [units_in1, units_deeper, Around.mark_units, units_caller, ktrTop]; omega) | ((try simp only [units_in1, units_deeper, Around.mark_units, units_caller] at *); (try dsimp only [ktrTop] at *); omega)) ?_)
        case hcl => k_mem
        case hr => k_all
        refine use3 ?_
        intro h' tk' F' P9 rQ9 nQ9 kQ9
        obtain ⟨p, _, _, er9, p0, p1, ⟨_, hD⟩, en9⟩ := kQ9
        refine eq_rn er9 en9 ?_
        clear er9 en9
        (try clear nQ9)
        (try clear rQ9)
        intro N'
        (try clear P9)
        k_sweep
        k_steps
        refine unr_keep (by assumption) (pk_6_201345 (by assumption)) (by k_all) ?_
        k_steps
        exact JF.mk (vs := [_]) (by k_asm) (pk_5_301 (by k_asm)) (.cons (1 + p) _ .nil) (pos1 p0) (by omega) (by simp only [sumL]; omega) rfl ⟨_, hD⟩ (by omega) (by omega)
    clear lF9 lN9
    intro kv mv lf at1 tl ss vss kn D1 h' tk' F' N' hvs9 hpos9 hlf hsum hlen9 hD ha1 ha3
    k_sweep
    k_steps
    unfold Stop
    rename Fr _ _ _ _ => lF'
    rename News _ _ _ _ => lN'
    simp only [List.push_toArray] at lN'
    rename (Str → Option Value) => m9
    with_unfolding_all refine iter_listUnr (by rfl) lF' (pk_5_2134 lN') (.head _) (by rfl) (by rfl) ?_
    clear lF' lN'
    intro i' l1
    k_lt l1
    refine rest_cast (canon2 (a := Str.ofString "at") (b := Str.ofString "one") (va := some (.int 0 _)) (vb := none) rfl rfl) ?_
    refine sides_loop2 (w := w) (cl := cl) (d := d) (row := row) (wd := wd) (hg := hg) (x := x) (y := y) (n := n) (sd := sd) (at0 := at0) (hi := at0 + 5 + 3 * cost d) ?hz ?hs (ints_snoc hvs9) ⟨0, n, at1, _, none, [], 0, [], D1, _, []⟩ ?h0
    case h0 =>
      have hl3 : (ss ++ [1 + lf]).length = ss.length + 1 := by rw [List.length_append]; rfl
      have b1 := bud_le (c := cost d) (by omega) (ss ++ [1 + lf]) (by omega)
      have b2 := bud_le (c := maxP d) (by omega) (ss ++ [1 + lf]) (by omega)
      have b3 := sumL_snoc ss (1 + lf)
      exact ⟨pos_snoc hpos9 hlf, by show 0 + sumL (ss ++ [1 + lf]) = sd + 1; omega, Int.le_refl 0, by show at0 ≤ at1; omega, by show at1 + bud (cost d) (ss ++ [1 + lf]) ≤ at0 + 5 + 3 * cost d; omega, by show n + bud (maxP d) (ss ++ [1 + lf]) ≤ 100; omega, hn, ⟨rfl, rfl⟩, .nil, Nat.zero_le _, by show 2 ≤ 0 + (ss ++ [1 + lf]).length; omega, by show 0 + (ss ++ [1 + lf]).length ≤ 3; omega, (fun _ h => nomatch h), hD, ⟨_, hW⟩⟩
    case hz =>
      rintro ⟨AT, nn, at2, tA, ov, its, kn, ts, D2, W2, nw⟩ ⟨-, isum, -, ilo, icost, -, -, itr, idat, -, itwo, ile, iab, hD, hW⟩
      dsimp only at isum ilo icost itr idat itwo ile iab hD hW
      dsimp only
      obtain ⟨t, hbox, htr⟩ := trl_box hsd itr (by simp only [sumL] at isum; omega) itwo ile
      have icost2 : at2 ≤ at0 + 5 + 3 * cost d := by simp only [bud] at icost; omega
      k_steps
      unfold Stop
      (try (refine fold_Q ?_; intro qk9 ek9))
      refine join_str (x := kindS row) ?_ ?_
      · have hIn : MkIn := .mk
        cases row with
        | true =>
          k_steps
          exact ⟨_, _, rfl, rfl⟩
        | false =>
          k_steps
          exact ⟨_, _, rfl, rfl⟩
      intro tks tk9
      k_steps
      refine hQ _ ((dk, _) :: (pw, _) :: ((_ :: _ :: nw) ++ rest)) _ _ (by k_asm) (endR (by k_asm)) (TreeOut.mk (t := t) ?dat htr hD ilo (by omega) hW ?_)
      case dat => rw [box_dat hbox]; exact .tuple (.head _) (.cons (.str _ _) (.cons (.int _ _) (.cons (.int _ _) (.cons (.int _ _) (.cons (.int _ _) (.cons (.list (vs := its) (.tail _ (.head _)) (idat.mono fun p hp => .tail _ (.tail _ hp))) (.cons .none .nil)))))))
      exact above_box (by tbn_lt) (by tbn_below) iab.toBase
    case hs =>
      rintro S ss2 tS vs2 ⟨AT, nn, at2, tA, ov, its, kn, ts, D2, W2, nw⟩ ⟨ipos, isum, ia0, ilo, icost, imax, in0, itr, idat, ilen, itwo, ile, iab, ⟨_, hD⟩, ⟨_, hW⟩⟩ ih2
      dsimp only at isum ia0 ilo icost imax in0 itr idat ilen itwo ile iab hD hW
      dsimp only
      have iS := ipos S (.head _)
      have ipos2 : ∀ s ∈ ss2, 1 ≤ s := fun s h => ipos s (.tail _ h)
      have isum2 := sumL_pos ipos2
      have ibud2 := bud_pos (c := cost d) (by omega) ss2
      have imax2 := bud_pos (c := maxP d) (by omega) ss2
      simp only [sumL, bud, List.length_cons] at isum icost imax ilen itwo ile
      have hT9 : 0 ≤ AT ∧ 1 ≤ S ∧ AT + S ≤ sd := ⟨ia0, iS, by omega⟩
      have hB9 : 0 ≤ at2 ∧ at2 + cost d ≤ 100 ∧ 0 ≤ nn ∧ nn + maxP d ≤ 100 := ⟨by omega, by omega, in0, by omega⟩
      have od := off_app iab (.head _) hr1
      have op := off_app iab (.tail _ (.head _)) hr2
      have oi := off_app iab (.tail _ (.tail _ (.head _))) (by k_all)
      have ol := off_app iab (.tail _ (.tail _ (.tail _ (.tail _ (.head _))))) (by k_all)
      have g1 : AT + S + 1 + sumL ss2 = sd + 1 := by omega
      have g2 : at2 + cost d + bud (cost d) ss2 ≤ at0 + 5 + 3 * cost d := by omega
      have g3 : nn + maxP d + bud (maxP d) ss2 ≤ 100 := by omega
      clear ipos isum icost imax
      have hMk : MkIf := .mk
      k_steps
      unfold Stop
      (try (refine fold_Q ?_; intro qk9 ek9))
      k_dflt (refine' join_turn (w := w) (d := d) (row := row) (cl := cl) (wd := wd) (hg := hg) (x := x) (y := y) (by k_asm) (by k_asm) ?hj ?_)
      case hj =>
        have hIn : MkIn := .mk
        cases row with
        | true =>
          have hs9 : wd = sd := hsd
          k_steps
          unfold Stop
          (try (refine fold_Q ?_; intro qk9 ek9)); k_dflt (refine CT.use (ih dk pw _ _ _ _ _ _ _ _ _ _ _ _ _ _ _ _ ⟨_, hD⟩ ⟨_, hW⟩ ?hcl (by exact hB9.1) (by exact hB9.2.1) (by exact hB9.2.2.1) (by exact hB9.2.2.2) (by first | assumption | exact hT9.2.1 | exact rg1 hT9 hsd2 | exact rg2 (by assumption) hT9 | exact rg3 hs9 (by assumption) hT9 | omega) (by first | assumption | exact hT9.2.1 | exact rg1 hT9 hsd2 | exact rg2 (by assumption) hT9 | exact rg3 hs9 (by assumption) hT9 | omega) (by first | assumption | exact hT9.2.1 | exact rg1 hT9 hsd2 | exact rg2 (by assumption) hT9 | exact rg3 hs9 (by assumption) hT9 | omega) (by first | assumption | exact hT9.2.1 | exact rg1 hT9 hsd2 | exact rg2 (by assumption) hT9 | exact rg3 hs9 (by assumption) hT9 | omega) (by first | assumption | exact hT9.2.1 | exact rg1 hT9 hsd2 | exact rg2 (by assumption) hT9 | exact rg3 hs9 (by assumption) hT9 | omega) (by first | assumption | exact hT9.2.1 | exact rg1 hT9 hsd2 | exact rg2 (by assumption) hT9 | exact rg3 hs9 (by assumption) hT9 | omega) (by first | assumption | exact hT9.2.1 | exact rg1 hT9 hsd2 | exact rg2 (by assumption) hT9 | exact rg3 hs9 (by assumption) hT9 | omega) (by first | assumption | exact hT9.2.1 | exact rg1 hT9 hsd2 | exact rg2 (by assumption) hT9 | exact rg3 hs9 (by assumption) hT9 | omega) ?hr1 ?hr2 hne (by omega)) (by k_asm) (by k_asm) (by k_asm) ((pk_5_34012 (by k_asm))) (by k_asm) (by first | assumption | exact rfl) (by first | exact room_of hdp (by first | exact Nat.le_of_ble_eq_true rfl | exact Nat.le_add_right_of_le (Nat.le_of_ble_eq_true rfl) | omega) | (simp only [depth_under_make, depth_under_kw, depth_in1, depth_deeper, depth_caller, ktrTop]; omega) | ktr_room) (by first | exact units_of hun (by first | exact Nat.le_of_ble_eq_true rfl | exact Nat.le_add_right_of_le (Nat.le_of_ble_eq_true rfl) | omega) | (simp only [units_in1, units_deeper, Around.mark_units, units_caller, ktrTop]; omega) | ((try simp only [units_in1, units_deeper, Around.mark_units, units_caller] at *); (try dsimp only [ktrTop] at *); omega)) ?_)
          case hcl => first | k_mem | (repeat first | assumption | apply List.Mem.tail | (refine List.mem_append.mpr (Or.inr ?_)))
          case hr1 => k_all
          case hr2 => k_all
          refine use3 ?_
          intro h' tk' F' P9
          refine TreeOut.out ?_
          intro t9 n9 at9 _ _ nw9 r9 ht9 htr9 hD hat9 hal9 hW hab9 N'
          (try clear P9)
          replace N' := reo3 N'
          replace od := off_app hab9 (.head _) od
          replace op := off_app hab9 (.tail _ (.head _)) op
          replace oi := off_app hab9 (.tail _ (.tail _ (.head _))) oi
          replace ol := off_app hab9 (.tail _ (.tail _ (.tail _ (.tail _ (.head _))))) ol
          k_sweep
          k_steps
          exact JT.mk (by assumption) (by k_asm) ht9 htr9 hD hat9 hal9 hW hab9
        | false =>
          have hs9 : hg = sd := hsd
          k_steps
          unfold Stop
          (try (refine fold_Q ?_; intro qk9 ek9)); k_dflt (refine CT.use (ih dk pw _ _ _ _ _ _ _ _ _ _ _ _ _ _ _ _ ⟨_, hD⟩ ⟨_, hW⟩ ?hcl (by exact hB9.1) (by exact hB9.2.1) (by exact hB9.2.2.1) (by exact hB9.2.2.2) (by first | assumption | exact hT9.2.1 | exact rg1 hT9 hsd2 | exact rg2 (by assumption) hT9 | exact rg3 hs9 (by assumption) hT9 | omega) (by first | assumption | exact hT9.2.1 | exact rg1 hT9 hsd2 | exact rg2 (by assumption) hT9 | exact rg3 hs9 (by assumption) hT9 | omega) (by first | assumption | exact hT9.2.1 | exact rg1 hT9 hsd2 | exact rg2 (by assumption) hT9 | exact rg3 hs9 (by assumption) hT9 | omega) (by first | assumption | exact hT9.2.1 | exact rg1 hT9 hsd2 | exact rg2 (by assumption) hT9 | exact rg3 hs9 (by assumption) hT9 | omega) (by first | assumption | exact hT9.2.1 | exact rg1 hT9 hsd2 | exact rg2 (by assumption) hT9 | exact rg3 hs9 (by assumption) hT9 | omega) (by first | assumption | exact hT9.2.1 | exact rg1 hT9 hsd2 | exact rg2 (by assumption) hT9 | exact rg3 hs9 (by assumption) hT9 | omega) (by first | assumption | exact hT9.2.1 | exact rg1 hT9 hsd2 | exact rg2 (by assumption) hT9 | exact rg3 hs9 (by assumption) hT9 | omega) (by first | assumption | exact hT9.2.1 | exact rg1 hT9 hsd2 | exact rg2 (by assumption) hT9 | exact rg3 hs9 (by assumption) hT9 | omega) ?hr1 ?hr2 hne (by omega)) (by k_asm) (by k_asm) (by k_asm) ((pk_5_34012 (by k_asm))) (by k_asm) (by first | assumption | exact rfl) (by first | exact room_of hdp (by first | exact Nat.le_of_ble_eq_true rfl | exact Nat.le_add_right_of_le (Nat.le_of_ble_eq_true rfl) | omega) | (simp only [depth_under_make, depth_under_kw, depth_in1, depth_deeper, depth_caller, ktrTop]; omega) | ktr_room) (by first | exact units_of hun (by first | exact Nat.le_of_ble_eq_true rfl | exact Nat.le_add_right_of_le (Nat.le_of_ble_eq_true rfl) | omega) | (simp only [units_in1, units_deeper, Around.mark_units, units_caller, ktrTop]; omega) | ((try simp only [units_in1, units_deeper, Around.mark_units, units_caller] at *); (try dsimp only [ktrTop] at *); omega)) ?_)
          case hcl => first | k_mem | (repeat first | assumption | apply List.Mem.tail | (refine List.mem_append.mpr (Or.inr ?_)))
          case hr1 => k_all
          case hr2 => k_all
          refine use3 ?_
          intro h' tk' F' P9
          refine TreeOut.out ?_
          intro t9 n9 at9 _ _ nw9 r9 ht9 htr9 hD hat9 hal9 hW hab9 N'
          (try clear P9)
          replace N' := reo3 N'
          replace od := off_app hab9 (.head _) od
          replace op := off_app hab9 (.tail _ (.head _)) op
          replace oi := off_app hab9 (.tail _ (.tail _ (.head _))) oi
          replace ol := off_app hab9 (.tail _ (.tail _ (.tail _ (.tail _ (.head _))))) ol
          k_sweep
          k_steps
          exact JT.mk (by assumption) (by k_asm) ht9 htr9 hD hat9 hal9 hW hab9
      intro t n1 at3 _ _ nw1 r h' tk' F' N' ht htr hD3 hat hal hW3 hab
      have hle := htr.le
      have oi3 : ∀ q ∈ (nw1 ++ nw) ++ rest, q.1 ≠ i' := by rw [List.append_assoc]; exact off_app hab (.tail _ (.tail _ (.head _))) oi
      rw [← List.append_assoc] at N'
      simp only [List.push_toArray] at N'
      k_sweep
      k_steps
      refine unr_keep (by assumption) (pk_5_01234 (by assumption)) (by k_all) ⟨.head _, ?_⟩
      exact rest_cast canon2s (ih2 ⟨AT + S + 1, n1, at3, _, _, its ++ [.ref r], kn + 1, ts ++ [t], _, _, nw1 ++ nw⟩ ⟨ipos2, by show AT + S + 1 + sumL ss2 = sd + 1; omega, by show 0 ≤ AT + S + 1; omega, by show at0 ≤ at3; omega, by show at3 + bud (cost d) ss2 ≤ at0 + 5 + 3 * cost d; omega, by show n1 + bud (maxP d) ss2 ≤ 100; omega, by show 0 ≤ n1; omega, itr.snoc iS htr, by show DatAll (nw1 ++ nw) (its ++ [.ref r]) ((ts ++ [t]).map Mine.T.dat); rw [List.map_append]; exact dat_snoc (idat.mono fun p hp => List.mem_append.mpr (.inr hp)) (ht.mono fun p hp => List.mem_append.mpr (.inl hp)),
        by show (its ++ [Value.ref r]).length ≤ 3 - ss2.length; rw [List.length_append]; simp only [List.length_cons, List.length_nil]; omega, by show 2 ≤ (ts ++ [t]).length + ss2.length; rw [List.length_append]; simp only [List.length_cons, List.length_nil]; omega, by show (ts ++ [t]).length + ss2.length ≤ 3; rw [List.length_append]; simp only [List.length_cons, List.length_nil]; omega,
        Above.app (above_turn hab) iab, hD3, hW3⟩)
end
end Mine

namespace Mine
local macro_rules | `(tactic| omega) => `(tactic| lia)
theorem words_R10 : True := by
  k_with_none
  k_with "exec If" => (k_here; (with_reducible refine wpAny_If ?_); (refine fold_Q1 ?_; intro qk8w))
  k_with "exec Assign" => (k_here; (refine wpAny_Assign_Name ?_); (refine fold_Q1 ?_; intro qk8w))
  k_with "exec Return some" => (k_here; (refine wpAny_Return_some ?_); (refine fold_Q1 ?_; intro qk8w))
  k_with "eval Name" => (k_here; name_kind "globalImplicit"; (fail_if_success (with_reducible show wpAny _ _ (eval _ (compEnvC _ _ _ _)) _ _ _)); k_dflt (first | (name_is_builtin; refine' nameX_B ?Fw9 ?Xw9 ?Tw9 ?ew9 ?vw9 ?nw9 ?_ ?aw9 ?bw9; (case Fw9 => k_asm); (case Xw9 => k_asm); (case Tw9 => k_asm); (case aw9 => rfl); (case bw9 => rfl); (case ew9 => k_is); (case vw9 => boot_fast); (case nw9 => decide); k_whole) | (refine' nameX_K ?Fw9 ?Xw9 ?Tw9 ?ew9 ?_ ?aw9 ?bw9; (case Fw9 => k_asm); (case Xw9 => k_asm); (case Tw9 => k_asm); (case aw9 => rfl); (case bw9 => rfl); (case ew9 => k_is); k_whole)))
  k_with "eval Name" => (k_here; name_kind "local"; (fail_if_success (with_reducible show wpAny _ _ (eval _ (compEnvC _ _ _ _)) _ _ _)); k_dflt (refine' nameX_L ?Fw9 ?vw9 ?_ ?aw9 ?bw9; (case Fw9 => k_asm); (case aw9 => rfl); (case bw9 => rfl); (case vw9 => rfl); k_whole))
  k_with "eval Attribute Name" => (k_here; k_dflt (refine' own_L ?Fw9 ?Xw9 ?vw9 ?Nw9 ?iw9 ?jw9 ?k4w9 ?k5w9 ?k6w9 ?k7w9 ?k8w9 ?k9w9 ?_ ?aw9 ?bw9 ?cw9; (case Fw9 => k_asm); (case Xw9 => k_asm); (case aw9 => rfl); (case bw9 => rfl); (case cw9 => exact rfl); (case vw9 => rfl); (case Nw9 => k_asm); (case iw9 => k_mem); (case jw9 => k_mem); (case k4w9 => k_is); (case k5w9 => k_is); (case k6w9 => k_is); (case k7w9 => k_is); (case k8w9 => k_get); (case k9w9 => k_handed); k_whole))
  k_with "getAttr ref" => (k_here; k_dflt (refine' get_own ?k1w9 ?k2w9 ?k3w9 ?k4w9 ?k5w9 ?k6w9 ?k7w9 ?k8w9 ?k9w9 ?_; (case k1w9 => k_asm); (case k2w9 => k_asm); (case k3w9 => k_inst); (case k4w9 => k_is); (case k5w9 => k_is); (case k6w9 => k_is); (case k7w9 => k_is); (case k8w9 => k_get); (case k9w9 => k_handed); k_whole))
  k_with "ite" => (first | with_reducible refine ite_tt ?_ | with_reducible refine ite_ff ?_ | with_reducible refine ite_True_then ?_)
  k_with "WhlIf" => (first | (refine WhlIf.yes (by (simp only [decide_eq_true_eq]; omega)) ?_) | (refine WhlIf.no (by (simp only [decide_eq_false_iff_not]; omega)) ?_))
  k_with "subscriptTail" => (k_here; (with_reducible show wpAny _ _ (subscriptTail _ (PySem.Expr.Slice _ _ none _) (Value.bytes (List.toArray _) _) (Value.ref _)) _ _ _); (with_reducible rename Fr _ _ _ _ => F'w); (with_reducible rename News _ _ _ _ => N'w); first | (refine bslice_ij (s := ⟨_, _, _, _, _⟩) F'w N'w (by omega) (by omega) (by omega) (by first | with_reducible assumption | exact rfl) ?_; intro h'w t'w k'w F'w N'w; (try k_sweep)) | (refine bslice_j (s := ⟨_, _, _, _, _⟩) F'w N'w (by omega) (by omega) (by first | with_reducible assumption | exact rfl) ?_; intro h'w t'w k'w F'w N'w; (try k_sweep)) | (refine bslice_i (s := ⟨_, _, _, _, _⟩) F'w N'w (by omega) (by omega) (by first | with_reducible assumption | exact rfl) ?_; intro h'w t'w k'w F'w N'w; (try k_sweep)))
  k_with "exec Raise some none" => (k_here; (with_reducible show wpAny _ _ (exec (Stmt.Raise (some (PySem.Expr.Call (PySem.Expr.Name _ _) [_] [] _)) none _) _) _ _ _); k_dflt (refine' Raise_bad ?Fw9 ?Xw9 ?Tw9 ?hw9 ?_ ?ew9 ?kw9 ?xw9; (case Fw9 => k_asm); (case Xw9 => k_asm); (case Tw9 => k_asm); (case hw9 => rfl); (case ew9 => rfl); (case kw9 => rfl); (case xw9 => rfl); k_whole))
  k_with "RaiseB" => (k_dflt (refine' raise_here ?Bw9 ?Fw9 ?Xw9 ?Nw9 ?Tw9 ?kw9 ?dw9 ?_; (case Bw9 => k_asm); (case Fw9 => k_asm); (case Xw9 => k_asm); (case Nw9 => k_asm); (case Tw9 => k_asm); (case kw9 => rfl); (case dw9 => ktr_room)); intro e9w dd9w tk9w k9w h9w R9w U9w)
  k_with "leaving ref" => (k_here; (refine' raise_next ?Kw9 ?Fw9 ?Rw9 ?Uw9 ?_; (case Rw9 => assumption); (case Kw9 => assumption); (case Uw9 => assumption); (case Fw9 => assumption)); intro h9w R9w U9w)
  k_with "compareOp NotIn bytes ref" => (k_here; k_dflt (refine' notin_signs ?Nw9 ?tw9 ?iw9 ?_; (case Nw9 => k_asm); (case tw9 => k_mem); (case iw9 => first | assumption | exact .cons .nil | exact .cons (.cons .nil) | exact .cons (.cons (.cons .nil))); k_whole))
  k_with "call ref" => (k_here; (with_reducible show wpAny _ _ (call (Value.ref _) _ _) _ _ _); (fail_if_success (with_reducible show wpAny _ _ (call (Value.ref 78) _ _) _ _ _)); (fail_if_success (with_reducible show wpAny _ _ (call (Value.ref 175) _ _) _ _ _)); refine stop_of ?_)
  k_with "UnrEnd" => (k_here; (refine' unr_keep ?Fw9 ?Nw9 ?ow9 ?_; (case Fw9 => assumption); (case Nw9 => k_asm); (case ow9 => exact fun p hp => Nat.ne_of_lt ((by assumption : ∀ p ∈ _, p.1 < _) p hp)); k_whole))
  k_with "exec While BoolOp" => (k_here; k_dflt (refine whl_start 100 ?_))
  k_with "execs cons" => (k_here; (try k_gentoks); (try (refine fold_Q ?_; intro qk9w ek9w)); (with_reducible refine wpAny_execs_cons ?_); (try dsimp only))
  k_with "storeName" => (k_here; k_dflt (refine' storeX_M ?Fw9 ?Nw9 ?_ ?aw9 ?bw9; (case Fw9 => k_asm); (case Nw9 => k_asm); (case aw9 => rfl); (case bw9 => rfl); k_whole; intro m9w h'w t9w F'w N'w; (try k_sweep); (try dsimp only)))
  k_with "storeName" => (k_here; (first | with_reducible refine tok_intA ?_ | with_reducible refine tok_intS ?_ | with_reducible refine tok_bytA ?_ | with_reducible refine tok_bytS ?_); intro t9w)
  k_with "call builtin:list.append" => (k_here; (first | with_reducible refine tok_appA ?_ | with_reducible refine tok_appS ?_); intro t9w)
  k_with "call ref" => (k_here; (with_reducible show wpAny _ _ (call (Value.ref 78) _ _) _ _ _); refine stop_of ?_)
  k_with "callWith ref" => (k_here; (with_reducible show wpAny _ _ (callWith _ (Value.ref _) _ (backTo _ (starEach [] _)) []) _ _ _); k_dflt (refine' callWith_K0 ?k1w9 ?k2w9 ?_; (case k1w9 => k_in); (case k2w9 => k_is); k_whole))
  k_with "exec While Name" => (k_here; refine stop_of ?_)
  k_with "subscriptTail" => (k_here; (with_reducible show wpAny _ _ (subscriptTail _ _ (Value.ref _) (Value.str _ _)) _ _ _); k_dflt (refine kda_item (knd := PySem.strKind _ _) (by k_asm) (by k_mem) (by assumption) (strKind_is _ _ _ _) (by rfl) ?_))
  k_with "setItem ref str" => (k_here; k_dflt (refine' kda_set (knd := PySem.strKind _ _) ?Fw9 ?Nw9 ?Uw9 ?dw9 (strKind_is _ _ _ _) ?zw9 ?_; (case Fw9 => k_asm); (case Nw9 => k_asm); (case Uw9 => k_updF); (case dw9 => assumption); (case zw9 => rw [sizeLine_eq]; exact Nat.le_of_ble_eq_true (by with_unfolding_all rfl))); intro h'w o'w F'w N'w hd'w; (try dsimp only at N'w))
  k_with "call builtin:len" => (k_here; k_dflt (refine i_len (by k_asm) (by k_mem) (by assumption) (by omega) ?_))
  k_with "exec For Name Name cons nil" => (k_here; (rename Fr _ _ _ _ => lF'w); (with_unfolding_all refine' For_invVF lF'w ?k1w9 ?k2w9 ?_; (case k1w9 => exact rfl); (case k2w9 => exact rfl); k_whole))
  k_with "getMethod bytes" => (k_here; (with_reducible refine join_method ?_))
  k_with "binaryOp Add bytes bytes" => (k_here; (with_reducible refine' bytes_add_L ?h1w9 ?h2w9 ?hzw9 ?_); (case h1w9 => with_reducible repeat' first | exact Le.dec _ | exact Le.one _ | assumption | apply Le.app); (case h2w9 => with_reducible repeat' first | exact Le.dec _ | exact Le.one _ | assumption | apply Le.app); (case hzw9 => exact Nat.le_of_ble_eq_true rfl); intro _ _)
  k_with "subscriptTail" => (k_here; (with_reducible show wpAny _ _ (subscriptTail _ _ (Value.ref _) (Value.int _ _)) _ _ _); k_dflt (refine t_item (by k_asm) (by assumption) (by decide) (by decide) (by rfl) (by rfl) ?_))
  k_with "subscriptTail Name Constant ref int" => (k_here; k_dflt (first | refine t_item (by k_asm) (by assumption) (by decide) (by decide) (by rfl) (by rfl) ?_ | (refine' item_tupleT ?tw9 ?aw9 ?bw9 ?cw9 ?dw9 ?_; (case tw9 => exact News.isTup (by k_asm) (by k_mem)); (case aw9 => decide); (case bw9 => decide); (case cw9 => rfl); (case dw9 => rfl); k_whole)))
  k_with "subscriptTail" => (k_here; (with_reducible show wpAny _ _ (subscriptTail _ _ (Value.bytes _ _) (Value.int _ _)) _ _ _); refine stop_of ?_)
  k_with "call type:bytes" => (k_here; refine stop_of ?_)
  k_with "call builtin:bytes.join" => (k_here; refine stop_of ?_)
  k_with "eval ListComp" => (k_here; k_dflt (refine LCg.ListComp_U (F₀ := by k_asm) (by rfl) (by decide) (by rfl) (by decide) (by rfl) ?_))
  k_with "CompSrc" => (k_here; refine stop_of ?_)
  trivial
section
variable {w : World} {mean : ExcName → Option Value} {mg mb : Str → Option Value}
theorem drop1 {h₀ h : Heap} {L : Addr} {a : Addr × Obj} {r : Led} (N : News h₀ L h (a :: r)) : News h₀ L h r := fun p hp => N p (.tail _ hp)
theorem join_sz (w h x y : Int) : (dec w ++ [120] ++ dec h).length + (dec x).length + (dec y).length ≤ 10000 := by
  have := dec_len w; have := dec_len h; have := dec_len x; have := dec_len y
  simp only [List.length_append, List.length_cons, List.length_nil]
  omega
theorem c_oct_box (row : Bool) (wd hg x y : Int) (ts : List T) (D : Nat) (h2 : 2 ≤ ts.length) (h3 : ts.length ≤ 3) (hn : num wd ∧ num hg ∧ num x ∧ num y) (hleaf : ∀ t ∈ ts, t.leafs ≤ 40) (ih : ∀ t ∈ ts, ∀ (v : Value) (news : Led), CellIn w news v t → CT w mean mg mb 130 [v] (20 + 20 * t.dep) news (fun r n' => ∃ u, r = .bytes t.body.toArray u ∧ n' = news)) (hdep : ∀ t ∈ ts, t.dep ≤ D)
   (a d l : Addr) (k1 k2 k3 k4 k5 k6 k7 t1 t2 t3 t4 t5 : Tok) (n : Nat) (vs : List Value) (news : Led) (hi : (a, instObj 78 d) ∈ news) (hd : (d, cellD w k1 k2 k3 k4 k5 k6 k7 (.str (kindS row) t1) (.int wd t2) (.int hg t3) (.int x t4) (.int y t5) (.ref l) .none) ∈ news)
   (hl : (l, W.listOf vs.toArray n) ∈ news) (hvs : CellAll w news vs ts) :
   CT w mean mg mb 130 [.ref a] (20 + 20 * (D + 1)) news (fun r n' => ∃ u, r = .bytes (hdT wd hg x y ++ [opn row] ++ inner ts ++ [cls row]).toArray u ∧ n' = news) := by
  intro dp un gd cn cs a0 ccd cl0 outer A₀ base h₀ L m s Q E B F X N T hk hdp hun hQ
  have hvl := hvs.len
  obtain ⟨hn1, hn2, hn3, hn4⟩ := hn
  have hkp : (kindS row == Str.ofString "pane") = false := by cases row <;> decide
  refine wpAny_call ?_
  k_dflt ktr_enter
  rename Fr _ _ _ _ => lF9
  refine fold_m lF9 ?_
  clear lF9
  intro m9 lF9
  k_steps
  unfold Stop
  (try (refine fold_Q ?_; intro qk9 ek9)); k_dflt (refine CT.use (c_dec _ _ hn1.1 hn1.2 _) (by k_asm) (by k_asm) (by k_asm) (by k_asm) (by k_asm) (by first | assumption | exact rfl) (by first | exact room_of hdp (by first | exact Nat.le_of_ble_eq_true rfl | exact Nat.le_add_right_of_le (Nat.le_of_ble_eq_true rfl) | omega) | (simp only [depth_under_make, depth_under_kw, depth_in1, depth_deeper, depth_caller, ktrTop]; omega) | ktr_room) (by first | exact units_of hun (by first | exact Nat.le_of_ble_eq_true rfl | exact Nat.le_add_right_of_le (Nat.le_of_ble_eq_true rfl) | omega) | (simp only [units_in1, units_deeper, Around.mark_units, units_caller, ktrTop]; omega) | ((try simp only [units_in1, units_deeper, Around.mark_units, units_caller] at *); (try dsimp only [ktrTop] at *); omega)) ?_)
  refine use3 ?_
  intro h' tk' F' P9 rQ9 nQ9 kQ9
  obtain ⟨u, er9, en9⟩ := kQ9
  refine eq_rn er9 en9 ?_
  clear er9 en9
  (try clear nQ9)
  (try clear rQ9)
  intro N'
  (try clear P9)
  k_sweep
  k_steps
  unfold Stop
  (try (refine fold_Q ?_; intro qk9 ek9)); k_dflt (refine CT.use (c_dec _ _ hn2.1 hn2.2 _) (by k_asm) (by k_asm) (by k_asm) (by k_asm) (by k_asm) (by first | assumption | exact rfl) (by first | exact room_of hdp (by first | exact Nat.le_of_ble_eq_true rfl | exact Nat.le_add_right_of_le (Nat.le_of_ble_eq_true rfl) | omega) | (simp only [depth_under_make, depth_under_kw, depth_in1, depth_deeper, depth_caller, ktrTop]; omega) | ktr_room) (by first | exact units_of hun (by first | exact Nat.le_of_ble_eq_true rfl | exact Nat.le_add_right_of_le (Nat.le_of_ble_eq_true rfl) | omega) | (simp only [units_in1, units_deeper, Around.mark_units, units_caller, ktrTop]; omega) | ((try simp only [units_in1, units_deeper, Around.mark_units, units_caller] at *); (try dsimp only [ktrTop] at *); omega)) ?_)
  refine use3 ?_
  intro h' tk' F' P9 rQ9 nQ9 kQ9
  obtain ⟨u, er9, en9⟩ := kQ9
  refine eq_rn er9 en9 ?_
  clear er9 en9
  (try clear nQ9)
  (try clear rQ9)
  intro N'
  (try clear P9)
  k_sweep
  k_steps
  unfold Stop
  (try (refine fold_Q ?_; intro qk9 ek9)); k_dflt (refine CT.use (c_dec _ _ hn3.1 hn3.2 _) (by k_asm) (by k_asm) (by k_asm) (by k_asm) (by k_asm) (by first | assumption | exact rfl) (by first | exact room_of hdp (by first | exact Nat.le_of_ble_eq_true rfl | exact Nat.le_add_right_of_le (Nat.le_of_ble_eq_true rfl) | omega) | (simp only [depth_under_make, depth_under_kw, depth_in1, depth_deeper, depth_caller, ktrTop]; omega) | ktr_room) (by first | exact units_of hun (by first | exact Nat.le_of_ble_eq_true rfl | exact Nat.le_add_right_of_le (Nat.le_of_ble_eq_true rfl) | omega) | (simp only [units_in1, units_deeper, Around.mark_units, units_caller, ktrTop]; omega) | ((try simp only [units_in1, units_deeper, Around.mark_units, units_caller] at *); (try dsimp only [ktrTop] at *); omega)) ?_)
  refine use3 ?_
  intro h' tk' F' P9 rQ9 nQ9 kQ9
  obtain ⟨u, er9, en9⟩ := kQ9
  refine eq_rn er9 en9 ?_
  clear er9 en9
  (try clear nQ9)
  (try clear rQ9)
  intro N'
  (try clear P9)
  k_sweep
  k_steps
  unfold Stop
  (try (refine fold_Q ?_; intro qk9 ek9)); k_dflt (refine CT.use (c_dec _ _ hn4.1 hn4.2 _) (by k_asm) (by k_asm) (by k_asm) (by k_asm) (by k_asm) (by first | assumption | exact rfl) (by first | exact room_of hdp (by first | exact Nat.le_of_ble_eq_true rfl | exact Nat.le_add_right_of_le (Nat.le_of_ble_eq_true rfl) | omega) | (simp only [depth_under_make, depth_under_kw, depth_in1, depth_deeper, depth_caller, ktrTop]; omega) | ktr_room) (by first | exact units_of hun (by first | exact Nat.le_of_ble_eq_true rfl | exact Nat.le_add_right_of_le (Nat.le_of_ble_eq_true rfl) | omega) | (simp only [units_in1, units_deeper, Around.mark_units, units_caller, ktrTop]; omega) | ((try simp only [units_in1, units_deeper, Around.mark_units, units_caller] at *); (try dsimp only [ktrTop] at *); omega)) ?_)
  refine use3 ?_
  intro h' tk' F' P9 rQ9 nQ9 kQ9
  obtain ⟨u, er9, en9⟩ := kQ9
  refine eq_rn er9 en9 ?_
  clear er9 en9
  (try clear nQ9)
  (try clear rQ9)
  intro N'
  (try clear P9)
  k_sweep
  k_steps
  unfold Stop
  k_dflt (refine join3 (by k_asm) (.head _) (join_sz wd hg x y) ?_)
  intro _ _
  rename News _ _ _ _ => lN'
  have nN' := drop1 lN'
  clear lN'
  have hLh : Le (hdT wd hg x y) 11 := hdT_len wd hg x y
  rw [show dec wd ++ [120] ++ dec hg ++ [44] ++ dec x ++ [44] ++ dec y = hdT wd hg x y from rfl]
  k_steps
  unfold Stop
  refine LCg.CompSrc.ledger (by rfl) (by k_asm) (by k_asm) hl ?sz ?_
  case sz => rw [sizeLine_eq, List.size_toArray]; omega
  intro g'
  refine compBytes (news := news) (ts := ts) ?hS ?hE ?hF _ 0 [] (by simp [hvl]) .nil
  case hS => exact .inr ⟨_, hl, rfl, _, rfl⟩
  case hE =>
    intro i v I oI C oC D9 ys m₂ h tk E' Q' hv hC hx2 F' N' hQ'
    obtain ⟨t, ht, hct⟩ := hvs.get (by simpa using hv)
    have htm := List.mem_of_getElem? ht
    have hdt := hdep t htm
    k_steps
    unfold Stop
    (try (refine fold_Q ?_; intro qk9 ek9)); k_dflt (refine CT.use (ih t htm _ _ (hct.mono ?s9)) (by k_asm) (by k_asm) (by k_asm) ((pk_3_012 (by k_asm))) (by k_asm) (by first | assumption | exact rfl) (by first | exact room_of hdp (by first | exact Nat.le_of_ble_eq_true rfl | exact Nat.le_add_right_of_le (Nat.le_of_ble_eq_true rfl) | omega) | (simp only [depth_under_make, depth_under_kw, depth_in1, depth_deeper, depth_caller, ktrTop]; omega) | ktr_room) (by first | exact units_of hun (by first | exact Nat.le_of_ble_eq_true rfl | exact Nat.le_add_right_of_le (Nat.le_of_ble_eq_true rfl) | omega) | (simp only [units_in1, units_deeper, Around.mark_units, units_caller, ktrTop]; omega) | ((try simp only [units_in1, units_deeper, Around.mark_units, units_caller] at *); (try dsimp only [ktrTop] at *); omega)) ?_)
    case s9 => exact sub3
    refine use3 ?_
    intro h' tk' F' P9 rQ9 nQ9 kQ9
    obtain ⟨u9, er9, en9⟩ := kQ9
    refine eq_rn er9 en9 ?_
    clear er9 en9
    (try clear nQ9)
    (try clear rQ9)
    intro N'
    (try clear P9)
    k_sweep
    exact hQ' _ _ _ _ ht (by k_asm) (by k_asm)
  case hF =>
    intro ys hys D' h' tk' F' N' o1'
    dsimp only
    k_steps
    unfold Stop
    k_dflt (refine joinB (by k_asm) (.head _) hys h2 h3 hleaf ?_)
    intro t9 k9 hLi
    k_steps
    · obtain rfl : row = true := by
        cases row
        · exact absurd ‹(kindS false == Str.ofString "row") = true› (by decide)
        · rfl
      exact hQ _ _ _ _ (by k_asm) (News.subs (by k_asm) (by kqd_sub)) ⟨_, rfl, rfl⟩
    · obtain rfl : row = false := by
        cases row
        · rfl
        · exact absurd ‹(kindS true == Str.ofString "row") = false› (by decide)
      exact hQ _ _ _ _ (by k_asm) (News.subs (by k_asm) (by kqd_sub)) ⟨_, rfl, rfl⟩
theorem c_oct (t : T) : ∀ (v : Value) (news : Led), CellIn w news v t → t.Nums → t.leafs ≤ 40 →
   CT w mean mg mb 130 [v] (20 + 20 * t.dep) news (fun r n' => ∃ u, r = .bytes t.body.toArray u ∧ n' = news) := by
  induction t with
  | pane wd hg x y k =>
    intro v news H hn hsz
    revert H
    revert v
    refine cIn_pane_k ?_
    intro a d l k1 k2 k3 k4 k5 k6 k7 t1 t2 t3 t4 t5 t6 n hi hd hl
    intro dp un gd cn cs a0 ccd cl0 outer A₀ base h₀ L m s Q E B F X N T hk hdp hun hQ
    simp only [Mine.T.dep] at hdp hun
    obtain ⟨hn1, hn2, hn3, hn4, hn5⟩ := hn
    refine wpAny_call ?_
    k_dflt ktr_enter
    rename Fr _ _ _ _ => lF9
    refine fold_m lF9 ?_
    clear lF9
    intro m9 lF9
    k_steps
    unfold Stop
    (try (refine fold_Q ?_; intro qk9 ek9)); k_dflt (refine CT.use (c_dec _ _ hn1.1 hn1.2 _) (by k_asm) (by k_asm) (by k_asm) (by k_asm) (by k_asm) (by first | assumption | exact rfl) (by first | exact room_of hdp (by first | exact Nat.le_of_ble_eq_true rfl | exact Nat.le_add_right_of_le (Nat.le_of_ble_eq_true rfl) | omega) | (simp only [depth_under_make, depth_under_kw, depth_in1, depth_deeper, depth_caller, ktrTop]; omega) | ktr_room) (by first | exact units_of hun (by first | exact Nat.le_of_ble_eq_true rfl | exact Nat.le_add_right_of_le (Nat.le_of_ble_eq_true rfl) | omega) | (simp only [units_in1, units_deeper, Around.mark_units, units_caller, ktrTop]; omega) | ((try simp only [units_in1, units_deeper, Around.mark_units, units_caller] at *); (try dsimp only [ktrTop] at *); omega)) ?_)
    refine use3 ?_
    intro h' tk' F' P9 rQ9 nQ9 kQ9
    obtain ⟨u, er9, en9⟩ := kQ9
    refine eq_rn er9 en9 ?_
    clear er9 en9
    (try clear nQ9)
    (try clear rQ9)
    intro N'
    (try clear P9)
    k_sweep
    k_steps
    unfold Stop
    (try (refine fold_Q ?_; intro qk9 ek9)); k_dflt (refine CT.use (c_dec _ _ hn2.1 hn2.2 _) (by k_asm) (by k_asm) (by k_asm) (by k_asm) (by k_asm) (by first | assumption | exact rfl) (by first | exact room_of hdp (by first | exact Nat.le_of_ble_eq_true rfl | exact Nat.le_add_right_of_le (Nat.le_of_ble_eq_true rfl) | omega) | (simp only [depth_under_make, depth_under_kw, depth_in1, depth_deeper, depth_caller, ktrTop]; omega) | ktr_room) (by first | exact units_of hun (by first | exact Nat.le_of_ble_eq_true rfl | exact Nat.le_add_right_of_le (Nat.le_of_ble_eq_true rfl) | omega) | (simp only [units_in1, units_deeper, Around.mark_units, units_caller, ktrTop]; omega) | ((try simp only [units_in1, units_deeper, Around.mark_units, units_caller] at *); (try dsimp only [ktrTop] at *); omega)) ?_)
    refine use3 ?_
    intro h' tk' F' P9 rQ9 nQ9 kQ9
    obtain ⟨u, er9, en9⟩ := kQ9
    refine eq_rn er9 en9 ?_
    clear er9 en9
    (try clear nQ9)
    (try clear rQ9)
    intro N'
    (try clear P9)
    k_sweep
    k_steps
    unfold Stop
    (try (refine fold_Q ?_; intro qk9 ek9)); k_dflt (refine CT.use (c_dec _ _ hn3.1 hn3.2 _) (by k_asm) (by k_asm) (by k_asm) (by k_asm) (by k_asm) (by first | assumption | exact rfl) (by first | exact room_of hdp (by first | exact Nat.le_of_ble_eq_true rfl | exact Nat.le_add_right_of_le (Nat.le_of_ble_eq_true rfl) | omega) | (simp only [depth_under_make, depth_under_kw, depth_in1, depth_deeper, depth_caller, ktrTop]; omega) | ktr_room) (by first | exact units_of hun (by first | exact Nat.le_of_ble_eq_true rfl | exact Nat.le_add_right_of_le (Nat.le_of_ble_eq_true rfl) | omega) | (simp only [units_in1, units_deeper, Around.mark_units, units_caller, ktrTop]; omega) | ((try simp only [units_in1, units_deeper, Around.mark_units, units_caller] at *); (try dsimp only [ktrTop] at *); omega)) ?_)
    refine use3 ?_
    intro h' tk' F' P9 rQ9 nQ9 kQ9
    obtain ⟨u, er9, en9⟩ := kQ9
    refine eq_rn er9 en9 ?_
    clear er9 en9
    (try clear nQ9)
    (try clear rQ9)
    intro N'
    (try clear P9)
    k_sweep
    k_steps
    unfold Stop
    (try (refine fold_Q ?_; intro qk9 ek9)); k_dflt (refine CT.use (c_dec _ _ hn4.1 hn4.2 _) (by k_asm) (by k_asm) (by k_asm) (by k_asm) (by k_asm) (by first | assumption | exact rfl) (by first | exact room_of hdp (by first | exact Nat.le_of_ble_eq_true rfl | exact Nat.le_add_right_of_le (Nat.le_of_ble_eq_true rfl) | omega) | (simp only [depth_under_make, depth_under_kw, depth_in1, depth_deeper, depth_caller, ktrTop]; omega) | ktr_room) (by first | exact units_of hun (by first | exact Nat.le_of_ble_eq_true rfl | exact Nat.le_add_right_of_le (Nat.le_of_ble_eq_true rfl) | omega) | (simp only [units_in1, units_deeper, Around.mark_units, units_caller, ktrTop]; omega) | ((try simp only [units_in1, units_deeper, Around.mark_units, units_caller] at *); (try dsimp only [ktrTop] at *); omega)) ?_)
    refine use3 ?_
    intro h' tk' F' P9 rQ9 nQ9 kQ9
    obtain ⟨u, er9, en9⟩ := kQ9
    refine eq_rn er9 en9 ?_
    clear er9 en9
    (try clear nQ9)
    (try clear rQ9)
    intro N'
    (try clear P9)
    k_sweep
    k_steps
    unfold Stop
    k_dflt (refine join3 (by k_asm) (.head _) (join_sz wd hg x y) ?_)
    intro _ _
    rename News _ _ _ _ => lN'
    have nN' := drop1 lN'
    clear lN'
    have hLh : Le (hdT wd hg x y) 11 := hdT_len wd hg x y
    rw [show dec wd ++ [120] ++ dec hg ++ [44] ++ dec x ++ [44] ++ dec y = hdT wd hg x y from rfl]
    k_steps
    unfold Stop
    (try (refine fold_Q ?_; intro qk9 ek9)); k_dflt (refine CT.use (c_dec _ _ hn5.1 hn5.2 _) (by k_asm) (by k_asm) (by k_asm) (by k_asm) (by k_asm) (by first | assumption | exact rfl) (by first | exact room_of hdp (by first | exact Nat.le_of_ble_eq_true rfl | exact Nat.le_add_right_of_le (Nat.le_of_ble_eq_true rfl) | omega) | (simp only [depth_under_make, depth_under_kw, depth_in1, depth_deeper, depth_caller, ktrTop]; omega) | ktr_room) (by first | exact units_of hun (by first | exact Nat.le_of_ble_eq_true rfl | exact Nat.le_add_right_of_le (Nat.le_of_ble_eq_true rfl) | omega) | (simp only [units_in1, units_deeper, Around.mark_units, units_caller, ktrTop]; omega) | ((try simp only [units_in1, units_deeper, Around.mark_units, units_caller] at *); (try dsimp only [ktrTop] at *); omega)) ?_)
    refine use3 ?_
    intro h' tk' F' P9 rQ9 nQ9 kQ9
    obtain ⟨u, er9, en9⟩ := kQ9
    refine eq_rn er9 en9 ?_
    clear er9 en9
    (try clear nQ9)
    (try clear rQ9)
    intro N'
    (try clear P9)
    k_sweep
    k_steps
    exact hQ _ _ _ _ (by k_asm) (News.subs (by k_asm) (by kqd_sub)) ⟨_, rfl, rfl⟩
  | two row wd hg x y ta tb iha ihb =>
    intro v news H hn hsz
    revert H
    revert v
    refine cIn_two_k ?_
    intro a d l k1 k2 k3 k4 k5 k6 k7 t1 t2 t3 t4 t5 n va vb hi hd hl ha hb
    simp only [Mine.T.leafs] at hsz
    obtain ⟨hn1, hn2, hn3, hn4, hna, hnb⟩ := hn
    rw [show (Mine.T.two row wd hg x y ta tb).dep = ta.dep + tb.dep + 1 by simp only [Mine.T.dep]; omega]
    have hleaf : ∀ t ∈ [ta, tb], t.leafs ≤ 40 := by
      simp only [List.mem_cons, List.not_mem_nil, or_false]
      rintro t (rfl | rfl) <;> omega
    have hdep : ∀ t ∈ [ta, tb], t.dep ≤ ta.dep + tb.dep := by
      simp only [List.mem_cons, List.not_mem_nil, or_false]
      rintro t (rfl | rfl) <;> omega
    refine c_oct_box row wd hg x y [ta, tb] _ (Nat.le_of_ble_eq_true rfl) (Nat.le_of_ble_eq_true rfl) ⟨hn1, hn2, hn3, hn4⟩ hleaf ?_ hdep a d l _ _ _ _ _ _ _ _ _ _ _ _ n [.ref va, .ref vb] news hi hd hl (.cons ha (.cons hb .nil))
    simp only [List.mem_cons, List.not_mem_nil, or_false]
    rintro t (rfl | rfl) v news H
    · exact iha v news H hna (by omega)
    · exact ihb v news H hnb (by omega)
  | three row wd hg x y ta tb tc iha ihb ihc =>
    intro v news H hn hsz
    revert H
    revert v
    refine cIn_three_k ?_
    intro a d l k1 k2 k3 k4 k5 k6 k7 t1 t2 t3 t4 t5 n va vb vc hi hd hl ha hb hc
    simp only [Mine.T.leafs] at hsz
    obtain ⟨hn1, hn2, hn3, hn4, hna, hnb, hnc⟩ := hn
    rw [show (Mine.T.three row wd hg x y ta tb tc).dep = ta.dep + tb.dep + tc.dep + 1 by simp only [Mine.T.dep]; omega]
    have hleaf : ∀ t ∈ [ta, tb, tc], t.leafs ≤ 40 := by
      simp only [List.mem_cons, List.not_mem_nil, or_false]
      rintro t (rfl | rfl | rfl) <;> omega
    have hdep : ∀ t ∈ [ta, tb, tc], t.dep ≤ ta.dep + tb.dep + tc.dep := by
      simp only [List.mem_cons, List.not_mem_nil, or_false]
      rintro t (rfl | rfl | rfl) <;> omega
    refine c_oct_box row wd hg x y [ta, tb, tc] _ (Nat.le_of_ble_eq_true rfl) (Nat.le_of_ble_eq_true rfl) ⟨hn1, hn2, hn3, hn4⟩ hleaf ?_ hdep a d l _ _ _ _ _ _ _ _ _ _ _ _ n [.ref va, .ref vb, .ref vc] news hi hd hl (.cons ha (.cons hb (.cons hc .nil)))
    simp only [List.mem_cons, List.not_mem_nil, or_false]
    rintro t (rfl | rfl | rfl) v news H
    · exact iha v news H hna (by omega)
    · exact ihb v news H hnb (by omega)
    · exact ihc v news H hnc (by omega)
end
end Mine

namespace Mine
local macro_rules | `(tactic| omega) => `(tactic| lia)
theorem words_R1b0 : True := by
  k_with_none
  k_with "exec If" => (k_here; (with_reducible refine wpAny_If ?_); (refine fold_Q1 ?_; intro qk8w))
  k_with "exec Assign" => (k_here; (refine wpAny_Assign_Name ?_); (refine fold_Q1 ?_; intro qk8w))
  k_with "exec Return some" => (k_here; (refine wpAny_Return_some ?_); (refine fold_Q1 ?_; intro qk8w))
  k_with "eval Name" => (k_here; name_kind "globalImplicit"; (fail_if_success (with_reducible show wpAny _ _ (eval _ (compEnvC _ _ _ _)) _ _ _)); k_dflt (first | (name_is_builtin; refine' nameX_B ?Fw9 ?Xw9 ?Tw9 ?ew9 ?vw9 ?nw9 ?_ ?aw9 ?bw9; (case Fw9 => k_asm); (case Xw9 => k_asm); (case Tw9 => k_asm); (case aw9 => rfl); (case bw9 => rfl); (case ew9 => k_is); (case vw9 => boot_fast); (case nw9 => decide); k_whole) | (refine' nameX_K ?Fw9 ?Xw9 ?Tw9 ?ew9 ?_ ?aw9 ?bw9; (case Fw9 => k_asm); (case Xw9 => k_asm); (case Tw9 => k_asm); (case aw9 => rfl); (case bw9 => rfl); (case ew9 => k_is); k_whole)))
  k_with "eval Name" => (k_here; name_kind "local"; (fail_if_success (with_reducible show wpAny _ _ (eval _ (compEnvC _ _ _ _)) _ _ _)); k_dflt (refine' nameX_L ?Fw9 ?vw9 ?_ ?aw9 ?bw9; (case Fw9 => k_asm); (case aw9 => rfl); (case bw9 => rfl); (case vw9 => rfl); k_whole))
  k_with "eval Attribute Name" => (k_here; k_dflt (refine' own_L ?Fw9 ?Xw9 ?vw9 ?Nw9 ?iw9 ?jw9 ?k4w9 ?k5w9 ?k6w9 ?k7w9 ?k8w9 ?k9w9 ?_ ?aw9 ?bw9 ?cw9; (case Fw9 => k_asm); (case Xw9 => k_asm); (case aw9 => rfl); (case bw9 => rfl); (case cw9 => exact rfl); (case vw9 => rfl); (case Nw9 => k_asm); (case iw9 => k_mem); (case jw9 => k_mem); (case k4w9 => k_is); (case k5w9 => k_is); (case k6w9 => k_is); (case k7w9 => k_is); (case k8w9 => k_get); (case k9w9 => k_handed); k_whole))
  k_with "getAttr ref" => (k_here; k_dflt (refine' get_own ?k1w9 ?k2w9 ?k3w9 ?k4w9 ?k5w9 ?k6w9 ?k7w9 ?k8w9 ?k9w9 ?_; (case k1w9 => k_asm); (case k2w9 => k_asm); (case k3w9 => k_inst); (case k4w9 => k_is); (case k5w9 => k_is); (case k6w9 => k_is); (case k7w9 => k_is); (case k8w9 => k_get); (case k9w9 => k_handed); k_whole))
  k_with "ite" => (first | with_reducible refine ite_tt ?_ | with_reducible refine ite_ff ?_ | with_reducible refine ite_True_then ?_)
  k_with "WhlIf" => (first | (refine WhlIf.yes (by (simp only [decide_eq_true_eq]; omega)) ?_) | (refine WhlIf.no (by (simp only [decide_eq_false_iff_not]; omega)) ?_))
  k_with "subscriptTail" => (k_here; (with_reducible show wpAny _ _ (subscriptTail _ (PySem.Expr.Slice _ _ none _) (Value.bytes (List.toArray _) _) (Value.ref _)) _ _ _); (with_reducible rename Fr _ _ _ _ => F'w); (with_reducible rename News _ _ _ _ => N'w); first | (refine bslice_ij (s := ⟨_, _, _, _, _⟩) F'w N'w (by omega) (by omega) (by omega) (by first | with_reducible assumption | exact rfl) ?_; intro h'w t'w k'w F'w N'w; (try k_sweep)) | (refine bslice_j (s := ⟨_, _, _, _, _⟩) F'w N'w (by omega) (by omega) (by first | with_reducible assumption | exact rfl) ?_; intro h'w t'w k'w F'w N'w; (try k_sweep)) | (refine bslice_i (s := ⟨_, _, _, _, _⟩) F'w N'w (by omega) (by omega) (by first | with_reducible assumption | exact rfl) ?_; intro h'w t'w k'w F'w N'w; (try k_sweep)))
  k_with "exec Raise some none" => (k_here; (with_reducible show wpAny _ _ (exec (Stmt.Raise (some (PySem.Expr.Call (PySem.Expr.Name _ _) [_] [] _)) none _) _) _ _ _); k_dflt (refine' Raise_bad ?Fw9 ?Xw9 ?Tw9 ?hw9 ?_ ?ew9 ?kw9 ?xw9; (case Fw9 => k_asm); (case Xw9 => k_asm); (case Tw9 => k_asm); (case hw9 => rfl); (case ew9 => rfl); (case kw9 => rfl); (case xw9 => rfl); k_whole))
  k_with "RaiseB" => (k_dflt (refine' raise_here ?Bw9 ?Fw9 ?Xw9 ?Nw9 ?Tw9 ?kw9 ?dw9 ?_; (case Bw9 => k_asm); (case Fw9 => k_asm); (case Xw9 => k_asm); (case Nw9 => k_asm); (case Tw9 => k_asm); (case kw9 => rfl); (case dw9 => ktr_room)); intro e9w dd9w tk9w k9w h9w R9w U9w)
  k_with "leaving ref" => (k_here; (refine' raise_next ?Kw9 ?Fw9 ?Rw9 ?Uw9 ?_; (case Rw9 => assumption); (case Kw9 => assumption); (case Uw9 => assumption); (case Fw9 => assumption)); intro h9w R9w U9w)
  k_with "compareOp NotIn bytes ref" => (k_here; k_dflt (refine' notin_signs ?Nw9 ?tw9 ?iw9 ?_; (case Nw9 => k_asm); (case tw9 => k_mem); (case iw9 => first | assumption | exact .cons .nil | exact .cons (.cons .nil) | exact .cons (.cons (.cons .nil))); k_whole))
  k_with "call ref" => (k_here; (with_reducible show wpAny _ _ (call (Value.ref _) _ _) _ _ _); (fail_if_success (with_reducible show wpAny _ _ (call (Value.ref 78) _ _) _ _ _)); (fail_if_success (with_reducible show wpAny _ _ (call (Value.ref 175) _ _) _ _ _)); refine stop_of ?_)
  k_with "UnrEnd" => (k_here; (refine' unr_keep ?Fw9 ?Nw9 ?ow9 ?_; (case Fw9 => assumption); (case Nw9 => k_asm); (case ow9 => exact fun p hp => Nat.ne_of_lt ((by assumption : ∀ p ∈ _, p.1 < _) p hp)); k_whole))
  k_with "exec While BoolOp" => (k_here; k_dflt (refine whl_start 100 ?_))
  k_with "execs cons" => (k_here; (try k_gentoks); (try (refine fold_Q ?_; intro qk9w ek9w)); (with_reducible refine wpAny_execs_cons ?_); (try dsimp only))
  k_with "storeName" => (k_here; k_dflt (refine' storeX_M ?Fw9 ?Nw9 ?_ ?aw9 ?bw9; (case Fw9 => k_asm); (case Nw9 => k_asm); (case aw9 => rfl); (case bw9 => rfl); k_whole; intro m9w h'w t9w F'w N'w; (try k_sweep); (try dsimp only)))
  k_with "storeName" => (k_here; (first | with_reducible refine tok_intA ?_ | with_reducible refine tok_intS ?_ | with_reducible refine tok_bytA ?_ | with_reducible refine tok_bytS ?_); intro t9w)
  k_with "call builtin:list.append" => (k_here; (first | with_reducible refine tok_appA ?_ | with_reducible refine tok_appS ?_); intro t9w)
  k_with "call ref" => (k_here; (with_reducible show wpAny _ _ (call (Value.ref 78) _ _) _ _ _); refine stop_of ?_)
  k_with "callWith ref" => (k_here; (with_reducible show wpAny _ _ (callWith _ (Value.ref _) _ (backTo _ (starEach [] _)) []) _ _ _); k_dflt (refine' callWith_K0 ?k1w9 ?k2w9 ?_; (case k1w9 => k_in); (case k2w9 => k_is); k_whole))
  k_with "exec While Name" => (k_here; refine stop_of ?_)
  k_with "subscriptTail" => (k_here; (with_reducible show wpAny _ _ (subscriptTail _ _ (Value.ref _) (Value.str _ _)) _ _ _); k_dflt (refine kda_item (knd := PySem.strKind _ _) (by k_asm) (by k_mem) (by assumption) (strKind_is _ _ _ _) (by rfl) ?_))
  k_with "setItem ref str" => (k_here; k_dflt (refine' kda_set (knd := PySem.strKind _ _) ?Fw9 ?Nw9 ?Uw9 ?dw9 (strKind_is _ _ _ _) ?zw9 ?_; (case Fw9 => k_asm); (case Nw9 => k_asm); (case Uw9 => k_updF); (case dw9 => assumption); (case zw9 => rw [sizeLine_eq]; exact Nat.le_of_ble_eq_true (by with_unfolding_all rfl))); intro h'w o'w F'w N'w hd'w; (try dsimp only at N'w))
  k_with "call builtin:len" => (k_here; k_dflt (refine i_len (by k_asm) (by k_mem) (by assumption) (by omega) ?_))
  k_with "exec For Name Name cons nil" => (k_here; (rename Fr _ _ _ _ => lF'w); (with_unfolding_all refine' For_invVF lF'w ?k1w9 ?k2w9 ?_; (case k1w9 => exact rfl); (case k2w9 => exact rfl); k_whole))
  k_with "getMethod bytes" => (k_here; (with_reducible refine join_method ?_))
  k_with "binaryOp Add bytes bytes" => (k_here; (with_reducible refine' bytes_add_L ?h1w9 ?h2w9 ?hzw9 ?_); (case h1w9 => with_reducible repeat' first | exact Le.dec _ | exact Le.one _ | assumption | apply Le.app); (case h2w9 => with_reducible repeat' first | exact Le.dec _ | exact Le.one _ | assumption | apply Le.app); (case hzw9 => exact Nat.le_of_ble_eq_true rfl); intro _ _)
  k_with "subscriptTail" => (k_here; (with_reducible show wpAny _ _ (subscriptTail _ _ (Value.ref _) (Value.int _ _)) _ _ _); k_dflt (refine t_item (by k_asm) (by assumption) (by decide) (by decide) (by rfl) (by rfl) ?_))
  k_with "subscriptTail Name Constant ref int" => (k_here; k_dflt (first | refine t_item (by k_asm) (by assumption) (by decide) (by decide) (by rfl) (by rfl) ?_ | (refine' item_tupleT ?tw9 ?aw9 ?bw9 ?cw9 ?dw9 ?_; (case tw9 => exact News.isTup (by k_asm) (by k_mem)); (case aw9 => decide); (case bw9 => decide); (case cw9 => rfl); (case dw9 => rfl); k_whole)))
  trivial
section
variable {w : World} {mean : ExcName → Option Value} {mg mb : Str → Option Value}
theorem c_octs (t : T) (v : Value) (news : Led) (H : CellIn w news v t) (hn : t.Nums) (hsz : t.leafs ≤ 40) :
   CT w mean mg mb 137 [v] (40 + 20 * t.dep) news (fun r n' => ∃ u, r = .bytes (text t.body).toArray u ∧ n' = news) := by
  intro dp un gd cn cs a0 ccd cl0 outer A₀ base h₀ L m s Q E B F X N T hk hdp hun hQ
  have q5 := Le.body hsz
  obtain ⟨va, rfl⟩ := H.ref
  refine wpAny_call ?_
  k_dflt ktr_enter
  rename Fr _ _ _ _ => lF9
  refine fold_m lF9 ?_
  clear lF9
  intro m9 lF9
  k_steps
  unfold Stop
  (try (refine fold_Q ?_; intro qk9 ek9)); k_dflt (refine CT.use (c_oct t _ _ H hn hsz) (by k_asm) (by k_asm) (by k_asm) (by k_asm) (by k_asm) (by first | assumption | exact rfl) (by first | exact room_of hdp (by first | exact Nat.le_of_ble_eq_true rfl | exact Nat.le_add_right_of_le (Nat.le_of_ble_eq_true rfl) | omega) | (simp only [depth_under_make, depth_under_kw, depth_in1, depth_deeper, depth_caller, ktrTop]; omega) | ktr_room) (by first | exact units_of hun (by first | exact Nat.le_of_ble_eq_true rfl | exact Nat.le_add_right_of_le (Nat.le_of_ble_eq_true rfl) | omega) | (simp only [units_in1, units_deeper, Around.mark_units, units_caller, ktrTop]; omega) | ((try simp only [units_in1, units_deeper, Around.mark_units, units_caller] at *); (try dsimp only [ktrTop] at *); omega)) ?_)
  refine use3 ?_
  intro h' tk' F' P9 rQ9 nQ9 kQ9
  obtain ⟨u, er9, en9⟩ := kQ9
  refine eq_rn er9 en9 ?_
  clear er9 en9
  (try clear nQ9)
  (try clear rQ9)
  intro N'
  (try clear P9)
  k_sweep
  k_steps
  unfold Stop
  (try (refine fold_Q ?_; intro qk9 ek9)); k_dflt (refine CT.use (c_sum t.body _ _ (Nat.le_trans q5 (by decide))) (by k_asm) (by k_asm) (by k_asm) (by k_asm) (by k_asm) (by first | assumption | exact rfl) (by first | exact room_of hdp (by first | exact Nat.le_of_ble_eq_true rfl | exact Nat.le_add_right_of_le (Nat.le_of_ble_eq_true rfl) | omega) | (simp only [depth_under_make, depth_under_kw, depth_in1, depth_deeper, depth_caller, ktrTop]; omega) | ktr_room) (by first | exact units_of hun (by first | exact Nat.le_of_ble_eq_true rfl | exact Nat.le_add_right_of_le (Nat.le_of_ble_eq_true rfl) | omega) | (simp only [units_in1, units_deeper, Around.mark_units, units_caller, ktrTop]; omega) | ((try simp only [units_in1, units_deeper, Around.mark_units, units_caller] at *); (try dsimp only [ktrTop] at *); omega)) ?_)
  refine use3 ?_
  intro h' tk' F' P9 rQ9 nQ9 kQ9
  obtain ⟨u, er9, en9⟩ := kQ9
  refine eq_rn er9 en9 ?_
  clear er9 en9
  (try clear nQ9)
  (try clear rQ9)
  intro N'
  (try clear P9)
  k_sweep
  k_steps
  unfold Stop
  (try (refine fold_Q ?_; intro qk9 ek9)); k_dflt (refine CT.use (c_hex (sum1 t.body) _ (sum1_rng _).1 (sum1_rng _).2 _) (by k_asm) (by k_asm) (by k_asm) (by k_asm) (by k_asm) (by first | assumption | exact rfl) (by first | exact room_of hdp (by first | exact Nat.le_of_ble_eq_true rfl | exact Nat.le_add_right_of_le (Nat.le_of_ble_eq_true rfl) | omega) | (simp only [depth_under_make, depth_under_kw, depth_in1, depth_deeper, depth_caller, ktrTop]; omega) | ktr_room) (by first | exact units_of hun (by first | exact Nat.le_of_ble_eq_true rfl | exact Nat.le_add_right_of_le (Nat.le_of_ble_eq_true rfl) | omega) | (simp only [units_in1, units_deeper, Around.mark_units, units_caller, ktrTop]; omega) | ((try simp only [units_in1, units_deeper, Around.mark_units, units_caller] at *); (try dsimp only [ktrTop] at *); omega)) ?_)
  refine use3 ?_
  intro h' tk' F' P9 rQ9 nQ9 kQ9
  obtain ⟨u, er9, en9⟩ := kQ9
  refine eq_rn er9 en9 ?_
  clear er9 en9
  (try clear nQ9)
  (try clear rQ9)
  intro N'
  (try clear P9)
  k_sweep
  have hLh : Le (hex4 (sum1 t.body)) 4 := Nat.le_refl 4
  k_steps
  exact hQ _ _ _ _ (by k_asm) (News.subs (by k_asm) (by kqd_sub)) ⟨_, rfl, rfl⟩
end
end Mine

namespace Mine
local macro_rules | `(tactic| omega) => `(tactic| lia)
theorem words_R20 : True := by
  k_with_none
  k_with "exec If" => (k_here; (with_reducible refine wpAny_If ?_); (refine fold_Q1 ?_; intro qk8w))
  k_with "exec Assign" => (k_here; (refine wpAny_Assign_Name ?_); (refine fold_Q1 ?_; intro qk8w))
  k_with "exec Return some" => (k_here; (refine wpAny_Return_some ?_); (refine fold_Q1 ?_; intro qk8w))
  k_with "eval Name" => (k_here; name_kind "globalImplicit"; (fail_if_success (with_reducible show wpAny _ _ (eval _ (compEnvC _ _ _ _)) _ _ _)); k_dflt (first | (name_is_builtin; refine' nameX_B ?Fw9 ?Xw9 ?Tw9 ?ew9 ?vw9 ?nw9 ?_ ?aw9 ?bw9; (case Fw9 => k_asm); (case Xw9 => k_asm); (case Tw9 => k_asm); (case aw9 => rfl); (case bw9 => rfl); (case ew9 => k_is); (case vw9 => boot_fast); (case nw9 => decide); k_whole) | (refine' nameX_K ?Fw9 ?Xw9 ?Tw9 ?ew9 ?_ ?aw9 ?bw9; (case Fw9 => k_asm); (case Xw9 => k_asm); (case Tw9 => k_asm); (case aw9 => rfl); (case bw9 => rfl); (case ew9 => k_is); k_whole)))
  k_with "eval Name" => (k_here; name_kind "local"; (fail_if_success (with_reducible show wpAny _ _ (eval _ (compEnvC _ _ _ _)) _ _ _)); k_dflt (refine' nameX_L ?Fw9 ?vw9 ?_ ?aw9 ?bw9; (case Fw9 => k_asm); (case aw9 => rfl); (case bw9 => rfl); (case vw9 => rfl); k_whole))
  k_with "eval Attribute Name" => (k_here; k_dflt (refine' own_L ?Fw9 ?Xw9 ?vw9 ?Nw9 ?iw9 ?jw9 ?k4w9 ?k5w9 ?k6w9 ?k7w9 ?k8w9 ?k9w9 ?_ ?aw9 ?bw9 ?cw9; (case Fw9 => k_asm); (case Xw9 => k_asm); (case aw9 => rfl); (case bw9 => rfl); (case cw9 => exact rfl); (case vw9 => rfl); (case Nw9 => k_asm); (case iw9 => k_mem); (case jw9 => k_mem); (case k4w9 => k_is); (case k5w9 => k_is); (case k6w9 => k_is); (case k7w9 => k_is); (case k8w9 => k_get); (case k9w9 => k_handed); k_whole))
  k_with "getAttr ref" => (k_here; k_dflt (refine' get_own ?k1w9 ?k2w9 ?k3w9 ?k4w9 ?k5w9 ?k6w9 ?k7w9 ?k8w9 ?k9w9 ?_; (case k1w9 => k_asm); (case k2w9 => k_asm); (case k3w9 => k_inst); (case k4w9 => k_is); (case k5w9 => k_is); (case k6w9 => k_is); (case k7w9 => k_is); (case k8w9 => k_get); (case k9w9 => k_handed); k_whole))
  k_with "ite" => (first | with_reducible refine ite_tt ?_ | with_reducible refine ite_ff ?_ | with_reducible refine ite_True_then ?_)
  k_with "WhlIf" => (first | (refine WhlIf.yes (by (simp only [decide_eq_true_eq]; omega)) ?_) | (refine WhlIf.no (by (simp only [decide_eq_false_iff_not]; omega)) ?_))
  k_with "subscriptTail" => (k_here; (with_reducible show wpAny _ _ (subscriptTail _ (PySem.Expr.Slice _ _ none _) (Value.bytes (List.toArray _) _) (Value.ref _)) _ _ _); (with_reducible rename Fr _ _ _ _ => F'w); (with_reducible rename News _ _ _ _ => N'w); first | (refine bslice_ij (s := ⟨_, _, _, _, _⟩) F'w N'w (by omega) (by omega) (by omega) (by first | with_reducible assumption | exact rfl) ?_; intro h'w t'w k'w F'w N'w; (try k_sweep)) | (refine bslice_j (s := ⟨_, _, _, _, _⟩) F'w N'w (by omega) (by omega) (by first | with_reducible assumption | exact rfl) ?_; intro h'w t'w k'w F'w N'w; (try k_sweep)) | (refine bslice_i (s := ⟨_, _, _, _, _⟩) F'w N'w (by omega) (by omega) (by first | with_reducible assumption | exact rfl) ?_; intro h'w t'w k'w F'w N'w; (try k_sweep)))
  k_with "exec Raise some none" => (k_here; (with_reducible show wpAny _ _ (exec (Stmt.Raise (some (PySem.Expr.Call (PySem.Expr.Name _ _) [_] [] _)) none _) _) _ _ _); k_dflt (refine' Raise_bad ?Fw9 ?Xw9 ?Tw9 ?hw9 ?_ ?ew9 ?kw9 ?xw9; (case Fw9 => k_asm); (case Xw9 => k_asm); (case Tw9 => k_asm); (case hw9 => rfl); (case ew9 => rfl); (case kw9 => rfl); (case xw9 => rfl); k_whole))
  k_with "RaiseB" => (k_dflt (refine' raise_here ?Bw9 ?Fw9 ?Xw9 ?Nw9 ?Tw9 ?kw9 ?dw9 ?_; (case Bw9 => k_asm); (case Fw9 => k_asm); (case Xw9 => k_asm); (case Nw9 => k_asm); (case Tw9 => k_asm); (case kw9 => rfl); (case dw9 => ktr_room)); intro e9w dd9w tk9w k9w h9w R9w U9w)
  k_with "leaving ref" => (k_here; (refine' raise_next ?Kw9 ?Fw9 ?Rw9 ?Uw9 ?_; (case Rw9 => assumption); (case Kw9 => assumption); (case Uw9 => assumption); (case Fw9 => assumption)); intro h9w R9w U9w)
  k_with "compareOp NotIn bytes ref" => (k_here; k_dflt (refine' notin_signs ?Nw9 ?tw9 ?iw9 ?_; (case Nw9 => k_asm); (case tw9 => k_mem); (case iw9 => first | assumption | exact .cons .nil | exact .cons (.cons .nil) | exact .cons (.cons (.cons .nil))); k_whole))
  k_with "call ref" => (k_here; (with_reducible show wpAny _ _ (call (Value.ref _) _ _) _ _ _); (fail_if_success (with_reducible show wpAny _ _ (call (Value.ref 78) _ _) _ _ _)); (fail_if_success (with_reducible show wpAny _ _ (call (Value.ref 175) _ _) _ _ _)); refine stop_of ?_)
  k_with "UnrEnd" => (k_here; (refine' unr_keep ?Fw9 ?Nw9 ?ow9 ?_; (case Fw9 => assumption); (case Nw9 => k_asm); (case ow9 => exact fun p hp => Nat.ne_of_lt ((by assumption : ∀ p ∈ _, p.1 < _) p hp)); k_whole))
  k_with "exec While BoolOp" => (k_here; k_dflt (refine whl_start 100 ?_))
  k_with "execs cons" => (k_here; (try k_gentoks); (try (refine fold_Q ?_; intro qk9w ek9w)); (with_reducible refine wpAny_execs_cons ?_); (try dsimp only))
  k_with "storeName" => (k_here; k_dflt (refine' storeX_M ?Fw9 ?Nw9 ?_ ?aw9 ?bw9; (case Fw9 => k_asm); (case Nw9 => k_asm); (case aw9 => rfl); (case bw9 => rfl); k_whole; intro m9w h'w t9w F'w N'w; (try k_sweep); (try dsimp only)))
  k_with "storeName" => (k_here; (first | with_reducible refine tok_intA ?_ | with_reducible refine tok_intS ?_ | with_reducible refine tok_bytA ?_ | with_reducible refine tok_bytS ?_); intro t9w)
  k_with "call builtin:list.append" => (k_here; (first | with_reducible refine tok_appA ?_ | with_reducible refine tok_appS ?_); intro t9w)
  k_with "call ref" => (k_here; (with_reducible show wpAny _ _ (call (Value.ref 78) _ _) _ _ _); refine stop_of ?_)
  k_with "callWith ref" => (k_here; (with_reducible show wpAny _ _ (callWith _ (Value.ref _) _ (backTo _ (starEach [] _)) []) _ _ _); k_dflt (refine' callWith_K0 ?k1w9 ?k2w9 ?_; (case k1w9 => k_in); (case k2w9 => k_is); k_whole))
  k_with "exec While Name" => (k_here; refine stop_of ?_)
  k_with "subscriptTail" => (k_here; (with_reducible show wpAny _ _ (subscriptTail _ _ (Value.ref _) (Value.str _ _)) _ _ _); k_dflt (refine kda_item (knd := PySem.strKind _ _) (by k_asm) (by k_mem) (by assumption) (strKind_is _ _ _ _) (by rfl) ?_))
  k_with "setItem ref str" => (k_here; k_dflt (refine' kda_set (knd := PySem.strKind _ _) ?Fw9 ?Nw9 ?Uw9 ?dw9 (strKind_is _ _ _ _) ?zw9 ?_; (case Fw9 => k_asm); (case Nw9 => k_asm); (case Uw9 => k_updF); (case dw9 => assumption); (case zw9 => rw [sizeLine_eq]; exact Nat.le_of_ble_eq_true (by with_unfolding_all rfl))); intro h'w o'w F'w N'w hd'w; (try dsimp only at N'w))
  k_with "call builtin:len" => (k_here; k_dflt (refine i_len (by k_asm) (by k_mem) (by assumption) (by omega) ?_))
  k_with "exec For Name Name cons nil" => (k_here; (rename Fr _ _ _ _ => lF'w); (with_unfolding_all refine' For_invVF lF'w ?k1w9 ?k2w9 ?_; (case k1w9 => exact rfl); (case k2w9 => exact rfl); k_whole))
  k_with "pyIter ref" => (k_here; refine stop_of ?_)
  k_with "UnrEnd" => (k_here; refine stop_of ?_)
  k_with "call builtin:list.extend" => (k_here; refine stop_of ?_)
  k_with "call builtin:sum" => (k_here; refine stop_of ?_)
  trivial
def T.panes : T → List Int
  | .pane _ _ _ _ n => [n]
  | .two _ _ _ _ _ a b => a.panes ++ b.panes
  | .three _ _ _ _ _ a b c => a.panes ++ b.panes ++ c.panes
/-- the values are panes with these numbers -/
inductive PL (w : World) (news : Led) : List Value → List Int → Prop
  | nil : PL w news [] []
  | cons {v : Value} {vs : List Value} {ns : List Int} {wd hg x y n : Int} : CellIn w news v (.pane wd hg x y n) → PL w news vs ns → PL w news (v :: vs) (n :: ns)
theorem PL.mono {w : World} {news news' : Led} {vs : List Value} {ns : List Int} (h : PL w news vs ns) (hs : ∀ p ∈ news, p ∈ news') : PL w news' vs ns := by
  induction h with
  | nil => exact .nil
  | cons h _ ih => exact .cons (h.mono hs) ih
theorem PL.app {w : World} {news : Led} {vs ws : List Value} {ns ms : List Int} (h : PL w news vs ns) (k : PL w news ws ms) : PL w news (vs ++ ws) (ns ++ ms) := by
  induction h with
  | nil => exact k
  | cons h _ ih => exact .cons h ih
theorem PL.len {w : World} {news : Led} {vs : List Value} {ns : List Int} (h : PL w news vs ns) : vs.length = ns.length := by
  induction h with
  | nil => rfl
  | cons h _ ih => simp [ih]
theorem panes_len (t : T) : t.panes.length ≤ t.leafs := by
  induction t with
  | pane => exact Nat.le_refl 1
  | two _ _ _ _ _ a b ia ib => simp only [T.panes, T.leafs, List.length_append]; omega
  | three _ _ _ _ _ a b c ia ib ic => simp only [T.panes, T.leafs, List.length_append]; omega
theorem panes_pos (t : T) : 0 < t.panes.length := by
  induction t with
  | pane => exact Nat.le_refl 1
  | two _ _ _ _ _ a b ia ib => simp only [T.panes, List.length_append]; omega
  | three _ _ _ _ _ a b c ia ib ic => simp only [T.panes, List.length_append]; omega
section
variable {w : World} {mean : ExcName → Option Value} {mg mb : Str → Option Value}
theorem long_no {n m : Nat} (h : n + m ≤ 1000) (b : Bool) : ¬((b && Builtin.List.listTooLong (n + m)) = true) := by
  have e : Builtin.List.listTooLong (n + m) = false := by
    unfold Builtin.List.listTooLong
    rw [sizeLine_eq]
    exact decide_eq_false (by omega)
  rw [e, Bool.and_false]
  exact Bool.false_ne_true
theorem drop1' {h₀ h : Heap} {L : Addr} {a : Addr × Obj} {r : Led} (N : News h₀ L h (a :: r)) : News h₀ L h r := fun p hp => N p (.tail _ hp)
section
variable {prog : Program} {w : World} {A : Around} {E : Value → Shared → Prop} {s : Shared} {h₀ : Heap} {L b I D : Addr} {m : Str → Option Value} {it : Obj} {xs ys : List Value} {k n : Nat} {rest : Led}
theorem ext_at {Q : Value → Shared → Prop} (F : Fr h₀ L s.heap m) (N : News h₀ L s.heap ((b, W.listOf ys.toArray k) :: (I, it) :: (D, W.listOf xs.toArray n) :: rest)) (hb : ∀ p ∈ (I, it) :: (D, W.listOf xs.toArray n) :: rest, p.1 ≠ b) (hI : @Ne Nat I D) (hr : ∀ p ∈ rest, p.1 ≠ D)
    (hy : 0 < ys.length) (hz : xs.length + ys.length ≤ 1000) (h : ∀ h', Fr h₀ L h' m → News h₀ L h' ((I, it) :: (D, W.listOf (xs ++ ys).toArray (n + 1)) :: rest) → Q .none { s with heap := h' }) :
    wpAny (model prog w) A (call (.builtin "list.extend") [.ref D, .ref b]) Q E s := by
  refine kl_extend (l := xs ++ ys) F N (.head _) (by simp) ?_ (.tail (Ne.symm (hb (D, _) (.tail _ (.head _)))) (.tail hI (.head hr))) ?_ ?_ ?_ fun h' F' N' => h h' F' (drop1' N')
  · simp only [List.toList_toArray]
    omega
  · exact long_no (by simpa using hz) _
  · rw [sizeLine_eq]
    simp only [List.toList_toArray]
    omega
  · rw [sizeLine_eq]
    simp only [List.size_toArray]
    omega
end
theorem canon1 {m : Str → Option Value} {a : Str} {va : Option Value} (ha : m a = va) : m = fun z => if z = a then va else m z := by
  funext z
  split
  · subst z; exact ha
  rfl
theorem canon1s {m : Str → Option Value} {a : Str} {va va' : Option Value} : (fun z => if z = a then va' else if z = a then va else m z) = fun z => if z = a then va' else m z := by
  funext z
  split <;> rfl
structure LSt where
  xs : List Value
  k : Nat
  ov : Option Value
  ps : List Int
theorem leaf_loop {prog : Program} {w : World} {A : Around} {E : Value → Shared → Prop} {h₀ : Heap} {env : Env} {x : Str} {body : List Stmt} {Q : Flow → Shared → Prop} {s : Shared} {I : Addr} {lp : Addr × Obj} {m9 : Str → Option Value} {D : Addr} {news base : Led} {nm : Str} {PP : List T → LSt → Prop}
   (hz : ∀ c, PP [] c → ListRest prog w A E h₀ env x body Q s I lp [] (fun z => if z = nm then c.ov else m9 z) ((D, W.listOf c.xs.toArray c.k) :: news))
   (hs : ∀ t ts v vs c, CellIn w base v t → PP (t :: ts) c → (∀ c', PP ts c' → ListRest prog w A E h₀ env x body Q s I lp vs (fun z => if z = nm then c'.ov else m9 z) ((D, W.listOf c'.xs.toArray c'.k) :: news)) → ListRest prog w A E h₀ env x body Q s I lp (v :: vs) (fun z => if z = nm then c.ov else m9 z) ((D, W.listOf c.xs.toArray c.k) :: news)) :
   ∀ {vs : List Value} {ts : List T}, CellAll w base vs ts → ∀ c, PP ts c → ListRest prog w A E h₀ env x body Q s I lp vs (fun z => if z = nm then c.ov else m9 z) ((D, W.listOf c.xs.toArray c.k) :: news) := by
  intro vs ts h
  induction h with
  | nil => exact hz
  | cons h _ ih => exact fun c hp => hs _ _ _ _ c h hp ih
theorem c_leaves_box (row : Bool) (wd hg x y : Int) (ts : List T) (D0 : Nat) (h3 : ts.length ≤ 3) (hleaf : ∀ t ∈ ts, t.leafs ≤ 40) (ih : ∀ t ∈ ts, ∀ (v : Value) (base news : Led), (∀ p ∈ base, p ∈ news) → CellIn w base v t → CT w mean mg mb 89 [v] (20 + 20 * t.dep) news (fun r n' => ∃ l vs k, r = .ref l ∧ n' = (l, W.listOf vs.toArray k) :: news ∧ PL w base vs t.panes ∧ (∀ p ∈ news, p.1 ≠ l))) (hdep : ∀ t ∈ ts, t.dep ≤ D0)
   (a d l : Addr) (k1 k2 k3 k4 k5 k6 k7 t1 t2 t3 t4 t5 : Tok) (n : Nat) (vs : List Value) (base news : Led) (hs : ∀ p ∈ base, p ∈ news) (hi : (a, instObj 78 d) ∈ base) (hd : (d, cellD w k1 k2 k3 k4 k5 k6 k7 (.str (kindS row) t1) (.int wd t2) (.int hg t3) (.int x t4) (.int y t5) (.ref l) .none) ∈ base)
   (hl : (l, W.listOf vs.toArray n) ∈ base) (hvs : CellAll w base vs ts) :
   CT w mean mg mb 89 [.ref a] (20 + 20 * (D0 + 1)) news (fun r n' => ∃ l vs k, r = .ref l ∧ n' = (l, W.listOf vs.toArray k) :: news ∧ PL w base vs (ts.flatMap Mine.T.panes) ∧ (∀ p ∈ news, p.1 ≠ l)) := by
  intro dp un gd cn cs a0 ccd cl0 outer A₀ base0 h₀ L m s Q E B F X N T hk hdp hun hQ
  replace hi := hs _ hi; replace hd := hs _ hd; replace hl := hs _ hl
  have hkp : (kindS row == Str.ofString "pane") = false := by cases row <;> decide
  refine wpAny_call ?_
  k_dflt ktr_enter
  rename Fr _ _ _ _ => lF9
  refine fold_m lF9 ?_
  clear lF9
  intro m9 lF9
  k_steps
  unfold Stop
  rename Fr _ _ _ _ => lF'
  rename News _ _ _ _ => lN'
  rename (Str → Option Value) => m9
  with_unfolding_all refine iter_listUnr (by rfl) lF' lN' (.tail _ hl) (by rfl) (by rfl) ?_
  clear lF' lN'
  intro i' l1
  k_lt l1
  refine rest_cast (canon1 (a := Str.ofString "part") (va := none) rfl) ?_
  refine leaf_loop (PP := fun qs c => PL w base c.xs c.ps ∧ c.ps.length + 40 * qs.length ≤ 120 ∧ c.ps ++ qs.flatMap Mine.T.panes = ts.flatMap Mine.T.panes ∧ ∀ q ∈ qs, q ∈ ts) ?hz ?hs hvs ⟨[], _, none, []⟩ ⟨.nil, by show 0 + 40 * ts.length ≤ 120; omega, rfl, fun _ h => h⟩
  case hs =>
    rintro t qs v rs ⟨xs, kk, ov, ps⟩ hct ⟨hPL, hsz, hfm, hsub⟩ ih2
    dsimp only at hPL hsz hfm
    dsimp only
    have htm := hsub t (.head _)
    have hdt := hdep t htm
    have hpl := panes_len t
    have hp0 := panes_pos t
    have hlf := hleaf t htm
    have z0 := hPL.len
    rw [List.length_cons] at hsz
    k_steps
    unfold Stop
    (try (refine fold_Q ?_; intro qk9 ek9)); k_dflt (refine CT.use (ih t htm _ base _ (fun p hp => .tail _ (.tail _ (hs p hp))) hct) (by k_asm) (by k_asm) (by k_asm) (by k_asm) (by k_asm) (by first | assumption | exact rfl) (by first | exact room_of hdp (by first | exact Nat.le_of_ble_eq_true rfl | exact Nat.le_add_right_of_le (Nat.le_of_ble_eq_true rfl) | omega) | (simp only [depth_under_make, depth_under_kw, depth_in1, depth_deeper, depth_caller, ktrTop]; omega) | ktr_room) (by first | exact units_of hun (by first | exact Nat.le_of_ble_eq_true rfl | exact Nat.le_add_right_of_le (Nat.le_of_ble_eq_true rfl) | omega) | (simp only [units_in1, units_deeper, Around.mark_units, units_caller, ktrTop]; omega) | ((try simp only [units_in1, units_deeper, Around.mark_units, units_caller] at *); (try dsimp only [ktrTop] at *); omega)) ?_)
    refine use3 ?_
    intro h' tk' F' P9 rQ9 nQ9 kQ9
    obtain ⟨l9, vs9, k9, er9, en9, hp9, hx9⟩ := kQ9
    refine eq_rn er9 en9 ?_
    clear er9 en9
    (try clear nQ9)
    (try clear rQ9)
    intro N'
    (try clear P9)
    have z9 := hp9.len
    k_sweep
    k_steps
    unfold Stop
    k_dflt (refine ext_at (xs := xs) (by k_asm) (by k_asm) hx9 (by k_ne) (by k_all) ?e1 ?e2 ?_)
    case e1 => omega
    case e2 => omega
    intro h' F' N'
    k_steps
    unfold Stop
    refine unr_keep (by assumption) (by assumption) (by k_all) ⟨.tail _ hl, ?_⟩
    exact rest_cast canon1s (ih2 ⟨xs ++ vs9, kk + 1, _, ps ++ t.panes⟩ ⟨hPL.app hp9, by show (ps ++ t.panes).length + 40 * qs.length ≤ 120; rw [List.length_append]; omega, by show ps ++ t.panes ++ qs.flatMap Mine.T.panes = _; rw [List.append_assoc]; exact hfm, fun q hq => hsub q (.tail _ hq)⟩)
  case hz =>
    rintro ⟨xs, kk, ov, ps⟩ ⟨hPL, -, hfm, -⟩
    dsimp only at hPL hfm
    dsimp only
    rw [List.flatMap_nil, List.append_nil] at hfm
    subst hfm
    k_steps
    exact hQ _ _ _ _ (by k_asm) (by k_asm) ⟨_, xs, _, rfl, rfl, hPL, fun p hp => Nat.ne_of_lt ((by assumption : ∀ p ∈ news, p.1 < _) p hp)⟩
theorem c_leaves (t : T) : ∀ (v : Value) (base news : Led), (∀ p ∈ base, p ∈ news) → CellIn w base v t → t.leafs ≤ 40 →
   CT w mean mg mb 89 [v] (20 + 20 * t.dep) news (fun r n' => ∃ l vs k, r = .ref l ∧ n' = (l, W.listOf vs.toArray k) :: news ∧ PL w base vs t.panes ∧ (∀ p ∈ news, p.1 ≠ l)) := by
  induction t with
  | pane wd hg x y k =>
    intro v base news hs H hsz
    revert H
    revert v
    refine cIn_pane_k ?_
    intro a d l k1 k2 k3 k4 k5 k6 k7 t1 t2 t3 t4 t5 t6 n hi hd hl
    intro dp un gd cn cs a0 ccd cl0 outer A₀ base0 h₀ L m s Q E B F X N T hk hdp hun hQ
    simp only [Mine.T.dep] at hdp hun
    have H0 := CellIn.pane hi hd hl
    replace hi := hs _ hi; replace hd := hs _ hd; replace hl := hs _ hl
    refine wpAny_call ?_
    k_dflt ktr_enter
    rename Fr _ _ _ _ => lF9
    refine fold_m lF9 ?_
    clear lF9
    intro m9 lF9
    k_steps
    exact hQ _ _ _ _ (by k_asm) (by k_asm) ⟨_, [_], _, rfl, rfl, .cons H0 .nil, fun p hp => Nat.ne_of_lt ((by assumption : ∀ p ∈ news, p.1 < _) p hp)⟩
  | two row wd hg x y ta tb iha ihb =>
    intro v base news hs H hsz
    revert H
    revert v
    refine cIn_two_k ?_
    intro a d l k1 k2 k3 k4 k5 k6 k7 t1 t2 t3 t4 t5 n va vb hi hd hl ha hb
    simp only [Mine.T.leafs] at hsz
    rw [show (Mine.T.two row wd hg x y ta tb).dep = ta.dep + tb.dep + 1 by simp only [Mine.T.dep]; omega, show (Mine.T.two row wd hg x y ta tb).panes = [ta, tb].flatMap Mine.T.panes by simp [Mine.T.panes]]
    have hleaf : ∀ t ∈ [ta, tb], t.leafs ≤ 40 := by
      simp only [List.mem_cons, List.not_mem_nil, or_false]
      rintro t (rfl | rfl) <;> omega
    have hdep : ∀ t ∈ [ta, tb], t.dep ≤ ta.dep + tb.dep := by
      simp only [List.mem_cons, List.not_mem_nil, or_false]
      rintro t (rfl | rfl) <;> omega
    refine c_leaves_box row wd hg x y [ta, tb] _ (Nat.le_of_ble_eq_true rfl) hleaf ?_ hdep a d l _ _ _ _ _ _ _ _ _ _ _ _ n [.ref va, .ref vb] base news hs hi hd hl (.cons ha (.cons hb .nil))
    simp only [List.mem_cons, List.not_mem_nil, or_false]
    rintro t (rfl | rfl) v base news hs H
    · exact iha v base news hs H (by omega)
    · exact ihb v base news hs H (by omega)
  | three row wd hg x y ta tb tc iha ihb ihc =>
    intro v base news hs H hsz
    revert H
    revert v
    refine cIn_three_k ?_
    intro a d l k1 k2 k3 k4 k5 k6 k7 t1 t2 t3 t4 t5 n va vb vc hi hd hl ha hb hc
    simp only [Mine.T.leafs] at hsz
    rw [show (Mine.T.three row wd hg x y ta tb tc).dep = ta.dep + tb.dep + tc.dep + 1 by simp only [Mine.T.dep]; omega, show (Mine.T.three row wd hg x y ta tb tc).panes = [ta, tb, tc].flatMap Mine.T.panes by simp [Mine.T.panes]]
    have hleaf : ∀ t ∈ [ta, tb, tc], t.leafs ≤ 40 := by
      simp only [List.mem_cons, List.not_mem_nil, or_false]
      rintro t (rfl | rfl | rfl) <;> omega
    have hdep : ∀ t ∈ [ta, tb, tc], t.dep ≤ ta.dep + tb.dep + tc.dep := by
      simp only [List.mem_cons, List.not_mem_nil, or_false]
      rintro t (rfl | rfl | rfl) <;> omega
    refine c_leaves_box row wd hg x y [ta, tb, tc] _ (Nat.le_of_ble_eq_true rfl) hleaf ?_ hdep a d l _ _ _ _ _ _ _ _ _ _ _ _ n [.ref va, .ref vb, .ref vc] base news hs hi hd hl (.cons ha (.cons hb (.cons hc .nil)))
    simp only [List.mem_cons, List.not_mem_nil, or_false]
    rintro t (rfl | rfl | rfl) v base news hs H
    · exact iha v base news hs H (by omega)
    · exact ihb v base news hs H (by omega)
    · exact ihc v base news hs H (by omega)
theorem compInts {prog : Program} {A : Around} {h₀ : Heap} {L : Addr} {m : Str → Option Value} {env : Env} {elt : PySem.Expr} {x : Str} {scope : Scope} {cl : List (Str × Addr)} {s : Shared} {S : Led → Prop} {P : Nat → Value → Prop} {Fin : List Value → Led → Prop} {ns : List Int} {news : Led} (hS : S news)
   (hE : ∀ i v I oI C oC D ys m₂ h tk (E' : Value → Shared → Prop) (Q : Value → Shared → Prop), P i v → LCg.NsObj oC m₂ → m₂ x = some v → Fr h₀ L h m → News h₀ L h ((I, oI) :: (C, oC) :: (D, LCg.lst ys) :: news) →
     (∀ n u tk', ns[i]? = some n → Q (.int n u) { s with heap := h, toks := tk' }) → wpAny (model prog w) A (eval elt (compEnvC scope cl C env)) Q E' { s with heap := h, toks := tk })
   (hF : ∀ ys, IntsAre ys ns → Fin ys news) : ∀ (k i : Nat) (ys : List Value), i + k = ns.length → IntsAre ys (ns.take i) → LCg.CompRest prog w A h₀ L m env elt x scope cl s S P Fin k i ys news := by
  intro k
  induction k with
  | zero =>
    intro i ys hk hy
    rw [List.take_of_length_le (by omega)] at hy
    exact LCg.CompRest.zero (hF ys hy)
  | succ k ih =>
    intro i ys hk hy
    refine LCg.CompRest.succ ?_
    intro v I oI C oC D m₂ h tk E' hv hC hx F N off ne
    refine hE i v I oI C oC D ys m₂ h tk E' _ hv hC hx F N fun n u tk' hn => ?_
    refine cEnd F N off hS (ih (i + 1) _ (by omega) ?_)
    rw [List.take_add_one, hn]
    have app : ∀ {ys : List Value} {ms : List Int}, IntsAre ys ms → IntsAre (ys ++ [.int n u]) (ms ++ [n]) := by
      intro ys ms h
      induction h with
      | nil => exact .cons _ _ .nil
      | cons _ _ _ ih => exact .cons _ _ ih
    exact app hy
theorem PL.get {base : Led} {vs : List Value} {ns : List Int} (h : PL w base vs ns) : ∀ {i : Nat} {v : Value}, vs[i]? = some v → ∃ wd hg x y n, CellIn w base v (.pane wd hg x y n) ∧ ns[i]? = some n := by
  induction h with
  | nil => intro i v e; simp at e
  | @cons v vs ns wd hg x y n h _ ih =>
    intro i v' e
    cases i with
    | zero => simp at e; subst e; exact ⟨wd, hg, x, y, n, h, rfl⟩
    | succ i => simp at e; obtain ⟨a, b, c, d, n, h1, h2⟩ := ih e; exact ⟨a, b, c, d, n, h1, by simpa using h2⟩
end
end Mine

theorem Mine.pk_2_0 {h₀ h : Heap} {L : Addr} {a0 a1 : Addr × Obj} {rest : List (Addr × Obj)} (N : News h₀ L h (a0 :: a1 :: rest)) : News h₀ L h (a0 :: rest) := by
  intro p hp
  refine N p ?_
  simp only [List.mem_cons] at hp ⊢
  grind only
namespace Mine
local macro_rules | `(tactic| omega) => `(tactic| lia)
theorem words_R2b0 : True := by
  k_with_none
  k_with "exec If" => (k_here; (with_reducible refine wpAny_If ?_); (refine fold_Q1 ?_; intro qk8w))
  k_with "exec Assign" => (k_here; (refine wpAny_Assign_Name ?_); (refine fold_Q1 ?_; intro qk8w))
  k_with "exec Return some" => (k_here; (refine wpAny_Return_some ?_); (refine fold_Q1 ?_; intro qk8w))
  k_with "eval Name" => (k_here; name_kind "globalImplicit"; (fail_if_success (with_reducible show wpAny _ _ (eval _ (compEnvC _ _ _ _)) _ _ _)); k_dflt (first | (name_is_builtin; refine' nameX_B ?Fw9 ?Xw9 ?Tw9 ?ew9 ?vw9 ?nw9 ?_ ?aw9 ?bw9; (case Fw9 => k_asm); (case Xw9 => k_asm); (case Tw9 => k_asm); (case aw9 => rfl); (case bw9 => rfl); (case ew9 => k_is); (case vw9 => boot_fast); (case nw9 => decide); k_whole) | (refine' nameX_K ?Fw9 ?Xw9 ?Tw9 ?ew9 ?_ ?aw9 ?bw9; (case Fw9 => k_asm); (case Xw9 => k_asm); (case Tw9 => k_asm); (case aw9 => rfl); (case bw9 => rfl); (case ew9 => k_is); k_whole)))
  k_with "eval Name" => (k_here; name_kind "local"; (fail_if_success (with_reducible show wpAny _ _ (eval _ (compEnvC _ _ _ _)) _ _ _)); k_dflt (refine' nameX_L ?Fw9 ?vw9 ?_ ?aw9 ?bw9; (case Fw9 => k_asm); (case aw9 => rfl); (case bw9 => rfl); (case vw9 => rfl); k_whole))
  k_with "eval Attribute Name" => (k_here; k_dflt (refine' own_L ?Fw9 ?Xw9 ?vw9 ?Nw9 ?iw9 ?jw9 ?k4w9 ?k5w9 ?k6w9 ?k7w9 ?k8w9 ?k9w9 ?_ ?aw9 ?bw9 ?cw9; (case Fw9 => k_asm); (case Xw9 => k_asm); (case aw9 => rfl); (case bw9 => rfl); (case cw9 => exact rfl); (case vw9 => rfl); (case Nw9 => k_asm); (case iw9 => k_mem); (case jw9 => k_mem); (case k4w9 => k_is); (case k5w9 => k_is); (case k6w9 => k_is); (case k7w9 => k_is); (case k8w9 => k_get); (case k9w9 => k_handed); k_whole))
  k_with "getAttr ref" => (k_here; k_dflt (refine' get_own ?k1w9 ?k2w9 ?k3w9 ?k4w9 ?k5w9 ?k6w9 ?k7w9 ?k8w9 ?k9w9 ?_; (case k1w9 => k_asm); (case k2w9 => k_asm); (case k3w9 => k_inst); (case k4w9 => k_is); (case k5w9 => k_is); (case k6w9 => k_is); (case k7w9 => k_is); (case k8w9 => k_get); (case k9w9 => k_handed); k_whole))
  k_with "ite" => (first | with_reducible refine ite_tt ?_ | with_reducible refine ite_ff ?_ | with_reducible refine ite_True_then ?_)
  k_with "WhlIf" => (first | (refine WhlIf.yes (by (simp only [decide_eq_true_eq]; omega)) ?_) | (refine WhlIf.no (by (simp only [decide_eq_false_iff_not]; omega)) ?_))
  k_with "subscriptTail" => (k_here; (with_reducible show wpAny _ _ (subscriptTail _ (PySem.Expr.Slice _ _ none _) (Value.bytes (List.toArray _) _) (Value.ref _)) _ _ _); (with_reducible rename Fr _ _ _ _ => F'w); (with_reducible rename News _ _ _ _ => N'w); first | (refine bslice_ij (s := ⟨_, _, _, _, _⟩) F'w N'w (by omega) (by omega) (by omega) (by first | with_reducible assumption | exact rfl) ?_; intro h'w t'w k'w F'w N'w; (try k_sweep)) | (refine bslice_j (s := ⟨_, _, _, _, _⟩) F'w N'w (by omega) (by omega) (by first | with_reducible assumption | exact rfl) ?_; intro h'w t'w k'w F'w N'w; (try k_sweep)) | (refine bslice_i (s := ⟨_, _, _, _, _⟩) F'w N'w (by omega) (by omega) (by first | with_reducible assumption | exact rfl) ?_; intro h'w t'w k'w F'w N'w; (try k_sweep)))
  k_with "exec Raise some none" => (k_here; (with_reducible show wpAny _ _ (exec (Stmt.Raise (some (PySem.Expr.Call (PySem.Expr.Name _ _) [_] [] _)) none _) _) _ _ _); k_dflt (refine' Raise_bad ?Fw9 ?Xw9 ?Tw9 ?hw9 ?_ ?ew9 ?kw9 ?xw9; (case Fw9 => k_asm); (case Xw9 => k_asm); (case Tw9 => k_asm); (case hw9 => rfl); (case ew9 => rfl); (case kw9 => rfl); (case xw9 => rfl); k_whole))
  k_with "RaiseB" => (k_dflt (refine' raise_here ?Bw9 ?Fw9 ?Xw9 ?Nw9 ?Tw9 ?kw9 ?dw9 ?_; (case Bw9 => k_asm); (case Fw9 => k_asm); (case Xw9 => k_asm); (case Nw9 => k_asm); (case Tw9 => k_asm); (case kw9 => rfl); (case dw9 => ktr_room)); intro e9w dd9w tk9w k9w h9w R9w U9w)
  k_with "leaving ref" => (k_here; (refine' raise_next ?Kw9 ?Fw9 ?Rw9 ?Uw9 ?_; (case Rw9 => assumption); (case Kw9 => assumption); (case Uw9 => assumption); (case Fw9 => assumption)); intro h9w R9w U9w)
  k_with "compareOp NotIn bytes ref" => (k_here; k_dflt (refine' notin_signs ?Nw9 ?tw9 ?iw9 ?_; (case Nw9 => k_asm); (case tw9 => k_mem); (case iw9 => first | assumption | exact .cons .nil | exact .cons (.cons .nil) | exact .cons (.cons (.cons .nil))); k_whole))
  k_with "call ref" => (k_here; (with_reducible show wpAny _ _ (call (Value.ref _) _ _) _ _ _); (fail_if_success (with_reducible show wpAny _ _ (call (Value.ref 78) _ _) _ _ _)); (fail_if_success (with_reducible show wpAny _ _ (call (Value.ref 175) _ _) _ _ _)); refine stop_of ?_)
  k_with "UnrEnd" => (k_here; (refine' unr_keep ?Fw9 ?Nw9 ?ow9 ?_; (case Fw9 => assumption); (case Nw9 => k_asm); (case ow9 => exact fun p hp => Nat.ne_of_lt ((by assumption : ∀ p ∈ _, p.1 < _) p hp)); k_whole))
  k_with "exec While BoolOp" => (k_here; k_dflt (refine whl_start 100 ?_))
  k_with "execs cons" => (k_here; (try k_gentoks); (try (refine fold_Q ?_; intro qk9w ek9w)); (with_reducible refine wpAny_execs_cons ?_); (try dsimp only))
  k_with "storeName" => (k_here; k_dflt (refine' storeX_M ?Fw9 ?Nw9 ?_ ?aw9 ?bw9; (case Fw9 => k_asm); (case Nw9 => k_asm); (case aw9 => rfl); (case bw9 => rfl); k_whole; intro m9w h'w t9w F'w N'w; (try k_sweep); (try dsimp only)))
  k_with "storeName" => (k_here; (first | with_reducible refine tok_intA ?_ | with_reducible refine tok_intS ?_ | with_reducible refine tok_bytA ?_ | with_reducible refine tok_bytS ?_); intro t9w)
  k_with "call builtin:list.append" => (k_here; (first | with_reducible refine tok_appA ?_ | with_reducible refine tok_appS ?_); intro t9w)
  k_with "call ref" => (k_here; (with_reducible show wpAny _ _ (call (Value.ref 78) _ _) _ _ _); refine stop_of ?_)
  k_with "callWith ref" => (k_here; (with_reducible show wpAny _ _ (callWith _ (Value.ref _) _ (backTo _ (starEach [] _)) []) _ _ _); k_dflt (refine' callWith_K0 ?k1w9 ?k2w9 ?_; (case k1w9 => k_in); (case k2w9 => k_is); k_whole))
  k_with "exec While Name" => (k_here; refine stop_of ?_)
  k_with "subscriptTail" => (k_here; (with_reducible show wpAny _ _ (subscriptTail _ _ (Value.ref _) (Value.str _ _)) _ _ _); k_dflt (refine kda_item (knd := PySem.strKind _ _) (by k_asm) (by k_mem) (by assumption) (strKind_is _ _ _ _) (by rfl) ?_))
  k_with "setItem ref str" => (k_here; k_dflt (refine' kda_set (knd := PySem.strKind _ _) ?Fw9 ?Nw9 ?Uw9 ?dw9 (strKind_is _ _ _ _) ?zw9 ?_; (case Fw9 => k_asm); (case Nw9 => k_asm); (case Uw9 => k_updF); (case dw9 => assumption); (case zw9 => rw [sizeLine_eq]; exact Nat.le_of_ble_eq_true (by with_unfolding_all rfl))); intro h'w o'w F'w N'w hd'w; (try dsimp only at N'w))
  k_with "call builtin:len" => (k_here; k_dflt (refine i_len (by k_asm) (by k_mem) (by assumption) (by omega) ?_))
  k_with "exec For Name Name cons nil" => (k_here; (rename Fr _ _ _ _ => lF'w); (with_unfolding_all refine' For_invVF lF'w ?k1w9 ?k2w9 ?_; (case k1w9 => exact rfl); (case k2w9 => exact rfl); k_whole))
  k_with "eval ListComp" => (k_here; k_dflt (refine LCg.ListComp_U (F₀ := by k_asm) (by rfl) (by decide) (by rfl) (by decide) (by rfl) ?_))
  k_with "CompSrc" => (k_here; refine stop_of ?_)
  trivial
section
variable {w : World} {mean : ExcName → Option Value} {mg mb : Str → Option Value}
theorem c_panes (t : T) (v : Value) (base news : Led) (hs : ∀ p ∈ base, p ∈ news) (H : CellIn w base v t) (hsz : t.leafs ≤ 40) :
   CT w mean mg mb 94 [v] (40 + 20 * t.dep) news (fun r n' => ∃ l vs k, r = .ref l ∧ n' = (l, W.listOf vs.toArray k) :: news ∧ IntsAre vs t.panes) := by
  intro dp un gd cn cs a0 ccd cl0 outer A₀ base0 h₀ L m s Q E B F X N T hk hdp hun hQ
  obtain ⟨va, rfl⟩ := H.ref
  refine wpAny_call ?_
  k_dflt ktr_enter
  rename Fr _ _ _ _ => lF9
  refine fold_m lF9 ?_
  clear lF9
  intro m9 lF9
  k_steps
  unfold Stop
  (try (refine fold_Q ?_; intro qk9 ek9)); k_dflt (refine CT.use (c_leaves t _ base _ hs H hsz) (by k_asm) (by k_asm) (by k_asm) (by k_asm) (by k_asm) (by first | assumption | exact rfl) (by first | exact room_of hdp (by first | exact Nat.le_of_ble_eq_true rfl | exact Nat.le_add_right_of_le (Nat.le_of_ble_eq_true rfl) | omega) | (simp only [depth_under_make, depth_under_kw, depth_in1, depth_deeper, depth_caller, ktrTop]; omega) | ktr_room) (by first | exact units_of hun (by first | exact Nat.le_of_ble_eq_true rfl | exact Nat.le_add_right_of_le (Nat.le_of_ble_eq_true rfl) | omega) | (simp only [units_in1, units_deeper, Around.mark_units, units_caller, ktrTop]; omega) | ((try simp only [units_in1, units_deeper, Around.mark_units, units_caller] at *); (try dsimp only [ktrTop] at *); omega)) ?_)
  refine use3 ?_
  intro h' tk' F' P9 rQ9 nQ9 kQ9
  obtain ⟨l, vs, k, er9, en9, hp, hx⟩ := kQ9
  refine eq_rn er9 en9 ?_
  clear er9 en9
  (try clear nQ9)
  (try clear rQ9)
  intro N'
  (try clear P9)
  k_sweep
  k_steps
  unfold Stop
  refine LCg.CompSrc.ledger (by rfl) (by k_asm) (by k_asm) (.head _) ?sz ?_
  case sz => rw [sizeLine_eq, List.size_toArray, hp.len]; have := panes_len t; omega
  intro g'
  refine compInts (ns := t.panes) ?hS ?hE ?hF _ 0 [] (by simp [hp.len]) .nil
  case hS => exact .inr ⟨_, .head _, rfl, _, rfl⟩
  case hE =>
    intro i v I oI C oC D ys m₂ h tk E' Q' hv hC hx2 F' N' hQ'
    obtain ⟨wd, hg, x, y, n, hc, hn⟩ := hp.get (by simpa using hv)
    clear hv
    revert hx2
    revert hc
    revert v
    refine cIn_pane_k ?_
    intro a d l k1 k2 k3 k4 k5 k6 k7 t1 t2 t3 t4 t5 t6 n hi hd hl hx2
    replace hi := hs _ hi; replace hd := hs _ hd
    have hi2 := memIn N' (.tail _ (.tail _ (.tail _ (.tail _ hi))))
    have hd2 := memIn N' (.tail _ (.tail _ (.tail _ (.tail _ hd))))
    k_steps
    exact hQ' _ _ _ hn
  case hF =>
    intro ys hys D' h' tk' F' N' o1'
    dsimp only
    k_steps
    exact hQ _ ((_, _) :: news) _ _ (by k_asm) (pk_2_0 (by k_asm)) ⟨_, ys, _, rfl, rfl, hys⟩
end
end Mine

namespace Mine
local macro_rules | `(tactic| omega) => `(tactic| lia)
theorem words_P4 : True := by
  k_with_none
  trivial
def T.wd : T → Int
  | .pane w _ _ _ _ => w
  | .two _ w _ _ _ _ _ => w
  | .three _ w _ _ _ _ _ _ => w
def T.hg : T → Int
  | .pane _ h _ _ _ => h
  | .two _ _ h _ _ _ _ => h
  | .three _ _ h _ _ _ _ _ => h
/-- the tree tiles: what layout_is_right asks, at (X, Y) -/
def T.Tiles : T → Int → Int → Prop
  | .pane w h x y _, X, Y => x = X ∧ y = Y ∧ 1 ≤ w ∧ 1 ≤ h
  | .two row w h x y a b, X, Y => x = X ∧ y = Y ∧ 1 ≤ w ∧ 1 ≤ h ∧ (if row then a.hg = h ∧ b.hg = h ∧ a.Tiles X Y ∧ b.Tiles (X + a.wd + 1) Y ∧ a.wd + b.wd + 1 = w
      else a.wd = w ∧ b.wd = w ∧ a.Tiles X Y ∧ b.Tiles X (Y + a.hg + 1) ∧ a.hg + b.hg + 1 = h)
  | .three row w h x y a b c, X, Y => x = X ∧ y = Y ∧ 1 ≤ w ∧ 1 ≤ h ∧ (if row then a.hg = h ∧ b.hg = h ∧ c.hg = h ∧ a.Tiles X Y ∧ b.Tiles (X + a.wd + 1) Y ∧ c.Tiles (X + a.wd + 1 + b.wd + 1) Y ∧ a.wd + b.wd + c.wd + 2 = w
      else a.wd = w ∧ b.wd = w ∧ c.wd = w ∧ a.Tiles X Y ∧ b.Tiles X (Y + a.hg + 1) ∧ c.Tiles X (Y + a.hg + 1 + b.hg + 1) ∧ a.hg + b.hg + c.hg + 2 = h)
theorem T.Tiles.cast {t : T} {X Y X' Y' : Int} (h : t.Tiles X Y) (e : X = X') (f : Y = Y') : t.Tiles X' Y' := by
  subst e f
  exact h
theorem sum2 {a b c : Int} (h : a + b + 1 = c) : ([a, b].sum + 2 - 1 == c) = true := by
  simp only [List.sum_cons, List.sum_nil, beq_iff_eq]
  omega
theorem sum3 {a b c d : Int} (h : a + b + c + 2 = d) : ([a, b, c].sum + 3 - 1 == d) = true := by
  simp only [List.sum_cons, List.sum_nil, beq_iff_eq]
  omega
theorem nums_wh {t : T} (h : t.Nums) : num t.wd ∧ num t.hg := by
  cases t with
  | pane => exact ⟨h.1, h.2.1⟩
  | two => exact ⟨h.1, h.2.1⟩
  | three => exact ⟨h.1, h.2.1⟩
theorem drop_get {o l : List UInt8} {p : Nat} (h : o.drop p = l) (i : Nat) : o[p + i]? = l[i]? := by
  rw [← h, List.getElem?_drop]
theorem drop_add {o l m : List UInt8} {p : Nat} (h : o.drop p = l ++ m) : o.drop (p + l.length) = m := by
  rw [← List.drop_drop, h, List.drop_left]
def NoDig (l : List UInt8) : Prop := ∀ c, l[0]? = some c → isDig c = false
theorem NoDig.nil : NoDig [] := fun _ h => by cases h
theorem NoDig.cons {c : UInt8} {l : List UInt8} (h : isDig c = false) : NoDig (c :: l) := fun d e => by
  cases e
  exact h
theorem dig_at {o l : List UInt8} {p : Nat} (h : o.drop p = l) (i : Nat) : dig o (p + i) = (match l[i]? with | some c => if isDig c then some c else none | none => none) := by
  unfold dig
  rw [drop_get h i]
  all_goals (cases l[i]? <;> rfl)
theorem psign_ok {o l : List UInt8} {p : Nat} {c : UInt8} {sg : List UInt8} (h : o.drop p = c :: l) (hc : c ∈ sg) : psign o p sg = .ok c (p + 1) ∧ o.drop (p + 1) = l := by
  have h0 := drop_get h 0
  refine ⟨?_, drop_add (l := [c]) h⟩
  unfold psign
  rw [Nat.add_zero] at h0
  rw [h0]
  exact if_pos hc
theorem psign_end {o : List UInt8} {p : Nat} {sg : List UInt8} (h : o.drop p = []) : psign o p sg = .bad p := by
  have h0 := drop_get h 0
  unfold psign
  rw [Nat.add_zero] at h0
  rw [h0]
  rfl
/-- a reading that is refused, or ends where the text ends -/
def Sk {α : Type} (o : List UInt8) (r : Res α) : Prop := (∃ k, r = .bad k) ∨ ∃ a q, r = .ok a q ∧ o.drop q = []
theorem dec_cases {n : Int} (h : num n) : (∃ a : UInt8, dec n = [a] ∧ isDig a = true ∧ n = (a.toNat : Int) - 48) ∨
    ∃ a b : UInt8, dec n = [a, b] ∧ isDig a = true ∧ isDig b = true ∧ a.toNat ≠ 48 ∧ n = 10 * ((a.toNat : Int) - 48) + ((b.toNat : Int) - 48) := by
  obtain ⟨h0, h1⟩ := h
  have key : ∀ k : Nat, k < 10 → ((48 + (k : Int)).toNat.toUInt8).toNat = 48 + k := by decide
  have dg : ∀ k : Nat, k < 10 → isDig ((48 + (k : Int)).toNat.toUInt8) = true := by decide
  unfold dec
  by_cases h2 : n < 10
  · rw [if_pos h2]
    obtain ⟨k, rfl⟩ := Int.eq_ofNat_of_zero_le h0
    exact .inl ⟨_, rfl, dg k (by omega), by rw [key k (by omega)]; omega⟩
  · rw [if_neg h2]
    obtain ⟨k, hk⟩ := Int.eq_ofNat_of_zero_le (show 0 ≤ n / 10 by omega)
    obtain ⟨j, hj⟩ := Int.eq_ofNat_of_zero_le (show 0 ≤ n % 10 by omega)
    rw [hk, hj]
    refine .inr ⟨_, _, rfl, dg k (by omega), dg j (by omega), ?_, ?_⟩
    · rw [key k (by omega)]; omega
    · rw [key k (by omega), key j (by omega)]; omega
theorem pnum_end {o : List UInt8} {p : Nat} (h : o.drop p = []) : pnum o p = .bad p := by
  have e := dig_at h 0
  unfold pnum
  rw [Nat.add_zero] at e
  rw [e]
  rfl
theorem pnum_ok {o l : List UInt8} {p : Nat} {n : Int} (hn : num n) (h : o.drop p = dec n ++ l) (hl : NoDig l) : pnum o p = .ok n (p + (dec n).length) ∧ o.drop (p + (dec n).length) = l := by
  refine ⟨?_, drop_add h⟩
  have hl' : (match l[0]? with | some c => if isDig c then some c else none | none => none) = none := by
    cases e : l[0]? with
    | none => rfl
    | some c =>
      show (if isDig c = true then some c else none) = none
      rw [hl c e]
      rfl
  rcases dec_cases hn with ⟨a, e, ha, hv⟩ | ⟨a, b, e, ha, hb, hz, hv⟩
  · rw [e] at h ⊢
    have e0 := dig_at h 0
    have e1 := dig_at h 1
    simp only [List.cons_append, List.nil_append, List.getElem?_cons_zero, List.getElem?_cons_succ, ha, if_true, Nat.add_zero] at e0 e1
    rw [hl'] at e1
    unfold pnum
    rw [e0, hv]
    simp only [e1]
    rfl
  · rw [e] at h ⊢
    have e0 := dig_at h 0
    have e1 := dig_at h 1
    have e2 := dig_at h 2
    simp only [List.cons_append, List.nil_append, List.getElem?_cons_zero, List.getElem?_cons_succ, ha, hb, if_true, Nat.add_zero] at e0 e1 e2
    rw [hl'] at e2
    unfold pnum
    rw [e0, hv]
    simp only [e1, hz, if_false]
    rw [show p + 1 + 1 = p + 2 from rfl, e2]
    rfl
/-- u is what is left of a text dec n ++ r after a cut: the number stands whole, or the reading is stuck -/
theorem pnum_cut {o u r : List UInt8} {p : Nat} {n : Int} (hn : num n) (h : o.drop p = u) (hu : u <+: dec n ++ r) (hr : NoDig r) :
    (∃ u', u = dec n ++ u' ∧ u' <+: r ∧ pnum o p = .ok n (p + (dec n).length) ∧ o.drop (p + (dec n).length) = u') ∨ Sk o (pnum o p) := by
  obtain ⟨z, hz⟩ := hu
  rcases dec_cases hn with ⟨a, e, ha, hv⟩ | ⟨a, b, e, ha, hb, hz', hv⟩
  · rw [e] at hz
    cases u with
    | nil => exact .inr (.inl ⟨p, pnum_end h⟩)
    | cons c u =>
      rw [List.cons_append, List.cons_append, List.nil_append] at hz
      obtain ⟨rfl, hy⟩ := List.cons.inj hz
      have hu : u <+: r := ⟨z, hy⟩
      refine .inl ⟨u, by rw [e]; rfl, hu, pnum_ok hn (by rw [h, e]; rfl) ?_⟩
      intro d hd
      exact hr d (by rw [← hy]; cases u with | nil => cases hd | cons x u => exact hd)
  · rw [e] at hz
    cases u with
    | nil => exact .inr (.inl ⟨p, pnum_end h⟩)
    | cons c u =>
      rw [List.cons_append, List.cons_append, List.cons_append] at hz
      obtain ⟨rfl, hy⟩ := List.cons.inj hz
      clear hz
      cases u with
      | nil =>
        refine .inr (.inr ⟨(c.toNat : Int) - 48, p + 1, ?_, drop_add (l := [c]) (m := []) h⟩)
        have e0 := dig_at h 0
        have e1 := dig_at h 1
        simp only [List.getElem?_cons_zero, List.getElem?_cons_succ, List.getElem?_nil, ha, if_true, Nat.add_zero] at e0 e1
        unfold pnum
        rw [e0]
        simp only [e1]
      | cons c2 u =>
        rw [List.cons_append, List.nil_append] at hy
        obtain ⟨rfl, hy2⟩ := List.cons.inj hy
        have hu : u <+: r := ⟨z, hy2⟩
        refine .inl ⟨u, by rw [e]; rfl, hu, pnum_ok hn (by rw [h, e]; rfl) ?_⟩
        intro d hd
        exact hr d (by rw [← hy2]; cases u with | nil => cases hd | cons x u => exact hd)
theorem psign_cut {o u r : List UInt8} {p : Nat} {c : UInt8} {sg : List UInt8} (h : o.drop p = u) (hu : u <+: c :: r) (hc : c ∈ sg) :
    (∃ u', u = c :: u' ∧ u' <+: r ∧ psign o p sg = .ok c (p + 1) ∧ o.drop (p + 1) = u') ∨ ∃ k, psign o p sg = .bad k := by
  cases u with
  | nil => exact .inr ⟨p, psign_end h⟩
  | cons d u =>
    obtain ⟨z, hz⟩ := hu
    rw [List.cons_append] at hz
    obtain ⟨rfl, hy⟩ := List.cons.inj hz
    have := psign_ok (sg := sg) h hc
    exact .inl ⟨u, rfl, ⟨z, hy⟩, this.1, this.2⟩
theorem bad_bind {α β : Type} {r : Res α} {f : α → Nat → Res β} (h : ∃ k, r = .bad k) : ∃ k, r.bind f = .bad k := by
  obtain ⟨k, rfl⟩ := h
  exact ⟨k, rfl⟩
/-- stuck, and a sign behind it: refused -/
theorem sk_bind {α β : Type} {o : List UInt8} {r : Res α} {f : α → Nat → Res β} (h : Sk o r) (hf : ∀ a q, o.drop q = [] → ∃ k, f a q = .bad k) : ∃ k, r.bind f = .bad k := by
  rcases h with h | ⟨a, q, rfl, hq⟩
  · exact bad_bind h
  · exact hf a q hq
theorem noDig_sign {c : UInt8} {l : List UInt8} (h : c = 120 ∨ c = 44 ∨ c = 123 ∨ c = 91 ∨ c = 125 ∨ c = 93) : NoDig (c :: l) := by
  refine NoDig.cons ?_
  rcases h with rfl | rfl | rfl | rfl | rfl | rfl <;> decide
theorem phead_ok {o l : List UInt8} {p : Nat} {w h x y : Int} {c : UInt8} (hw : num w) (hh : num h) (hx : num x) (hy : num y) (hc : c = 44 ∨ c = 123 ∨ c = 91) (H : o.drop p = hdT w h x y ++ c :: l) :
    phead o p = .ok (w, h, x, y, c) (p + (hdT w h x y).length + 1) ∧ o.drop (p + (hdT w h x y).length + 1) = l := by
  have hlast : o.drop (p + (hdT w h x y).length + 1) = l := by
    have := drop_add (o := o) (p := p) (l := hdT w h x y ++ [c]) (m := l) (by rw [H, List.append_assoc]; rfl)
    rw [List.length_append] at this
    exact this
  refine ⟨?_, hlast⟩
  have hlen : (hdT w h x y).length = (dec w).length + 1 + (dec h).length + 1 + (dec x).length + 1 + (dec y).length := by
    simp only [hdT, List.length_append, List.length_cons, List.length_nil]
  have H0 : o.drop p = dec w ++ 120 :: (dec h ++ 44 :: (dec x ++ 44 :: (dec y ++ c :: l))) := by
    rw [H]
    simp only [hdT, List.append_assoc, List.cons_append, List.nil_append]
  obtain ⟨a1, H1⟩ := pnum_ok hw H0 (noDig_sign (.inl rfl))
  obtain ⟨a2, H2⟩ := psign_ok (sg := [120]) H1 (.head _)
  obtain ⟨a3, H3⟩ := pnum_ok hh H2 (noDig_sign (.inr (.inl rfl)))
  obtain ⟨a4, H4⟩ := psign_ok (sg := [44]) H3 (.head _)
  obtain ⟨a5, H5⟩ := pnum_ok hx H4 (noDig_sign (.inr (.inl rfl)))
  obtain ⟨a6, H6⟩ := psign_ok (sg := [44]) H5 (.head _)
  obtain ⟨a7, H7⟩ := pnum_ok hy H6 (noDig_sign (by rcases hc with rfl | rfl | rfl <;> simp))
  obtain ⟨a8, H8⟩ := psign_ok (sg := [44, 123, 91]) H7 (by rcases hc with rfl | rfl | rfl <;> simp)
  unfold phead
  rw [a1]; simp only [Res.bind]
  rw [a2]; simp only
  rw [a3]; simp only
  rw [a4]; simp only
  rw [a5]; simp only
  rw [a6]; simp only
  rw [a7]; simp only
  rw [a8]; simp only
  congr 1
  omega
theorem ok_bind {α β : Type} {a : α} {p : Nat} {f : α → Nat → Res β} : (Res.ok a p).bind f = f a p := rfl
theorem sk_end {o : List UInt8} {α β : Type} {r : Res α} {sg : List UInt8} {f : α → UInt8 → Nat → Res β} (h : Sk o r) : ∃ k, (r.bind fun a q => (psign o q sg).bind fun c q => f a c q) = .bad k :=
  sk_bind h fun a q hq => ⟨q, by rw [psign_end hq]; rfl⟩
theorem cut_ns {β : Type} {o u r : List UInt8} {p : Nat} {n : Int} {c : UInt8} {sg : List UInt8} {f : Int → UInt8 → Nat → Res β} {G : Prop} (hn : num n) (hs : NoDig (c :: r)) (hc : c ∈ sg) (H : o.drop p = u) (hu : u <+: dec n ++ c :: r)
    (k : ∀ u2, u = dec n ++ c :: u2 → u2 <+: r → o.drop (p + (dec n).length + 1) = u2 → G ∨ ∃ k, f n c (p + (dec n).length + 1) = .bad k) : G ∨ ∃ k, ((pnum o p).bind fun a q => (psign o q sg).bind fun b q => f a b q) = .bad k := by
  rcases pnum_cut hn H hu hs with ⟨u1, rfl, hu1, a1, H⟩ | s
  · rcases psign_cut (sg := sg) H hu1 hc with ⟨u2, rfl, hu2, a2, H⟩ | ⟨k', s⟩
    · rw [a1, ok_bind, a2, ok_bind]
      exact k _ rfl hu2 H
    · exact .inr ⟨k', by rw [a1, ok_bind, s]; rfl⟩
  · exact .inr (sk_end s)
theorem phead_cut {o u : List UInt8} {p : Nat} {w h x y : Int} {c : UInt8} {r : List UInt8} (hw : num w) (hh : num h) (hx : num x) (hy : num y) (hc : c = 44 ∨ c = 123 ∨ c = 91) (H : o.drop p = u) (hu : u <+: hdT w h x y ++ c :: r) :
    (∃ u', u' <+: r ∧ u = hdT w h x y ++ c :: u' ∧ phead o p = .ok (w, h, x, y, c) (p + (hdT w h x y).length + 1) ∧ o.drop (p + (hdT w h x y).length + 1) = u') ∨ ∃ k, phead o p = .bad k := by
  have hu0 : u <+: dec w ++ 120 :: (dec h ++ 44 :: (dec x ++ 44 :: (dec y ++ c :: r))) := by
    have e : hdT w h x y ++ c :: r = dec w ++ 120 :: (dec h ++ 44 :: (dec x ++ 44 :: (dec y ++ c :: r))) := by
      simp only [hdT, List.append_assoc, List.cons_append, List.nil_append]
    rw [← e]
    exact hu
  unfold phead
  refine cut_ns hw (noDig_sign (.inl rfl)) (.head _) H hu0 fun u2 e1 h2 H2 => ?_
  refine cut_ns hh (noDig_sign (.inr (.inl rfl))) (.head _) H2 h2 fun u4 e2 h4 H4 => ?_
  refine cut_ns hx (noDig_sign (.inr (.inl rfl))) (.head _) H4 h4 fun u6 e3 h6 H6 => ?_
  refine cut_ns hy (noDig_sign (by rcases hc with rfl | rfl | rfl <;> simp)) (by rcases hc with rfl | rfl | rfl <;> simp) H6 h6 fun u8 e4 h8 H8 => ?_
  have e : u = hdT w h x y ++ c :: u8 := by
    rw [e1, e2, e3, e4]
    simp only [hdT, List.append_assoc, List.cons_append, List.nil_append]
  exact .inl ⟨u8, h8, e, phead_ok hw hh hx hy hc (H.trans e)⟩
/-- fuel that suffices -/
def T.fuel : T → Nat
  | .pane .. => 1
  | .two _ _ _ _ _ a b => 3 + a.fuel + b.fuel
  | .three _ _ _ _ _ a b c => 4 + a.fuel + b.fuel + c.fuel
theorem cls_cases (row : Bool) : (if opn row = 123 then (125 : UInt8) else 93) = cls row := by cases row <;> rfl
theorem opn_cases (row : Bool) : opn row = 44 ∨ opn row = 123 ∨ opn row = 91 := by
  cases row
  · exact .inr (.inr rfl)
  · exact .inr (.inl rfl)
theorem opn_ne (row : Bool) : ¬ opn row = 44 := by cases row <;> decide
theorem cls_ne (row : Bool) : ¬ cls row = 44 := by cases row <;> decide
theorem opn_row (row : Bool) : (opn row == 123) = row := by cases row <;> rfl
theorem noDig_cls (row : Bool) {l : List UInt8} : NoDig (cls row :: l) := noDig_sign (by cases row <;> simp [cls])
theorem pcell_box {o : List UInt8} {f p q : Nat} {row : Bool} {w h x y : Int} (e : phead o p = .ok (w, h, x, y, opn row) q) :
    pcell o (f + 1) p = (pparts o (pcell o f) (cls row) f q).bind fun ts p => (match T.box row w h x y ts with | some t => .ok t p | none => .out) := by
  rw [pcell, e, ok_bind]
  simp only [opn_ne row, if_false, cls_cases, opn_row]
  all_goals rfl
theorem pcell_ok (t : T) : ∀ (o l : List UInt8) (f p : Nat), t.Nums → t.fuel ≤ f → o.drop p = t.body ++ l → NoDig l → pcell o f p = .ok t (p + t.body.length) ∧ o.drop (p + t.body.length) = l := by
  induction t with
  | pane w h x y n =>
    intro o l f p hn hf H hl
    obtain ⟨hw, hh, hx, hy, hk⟩ := hn
    obtain ⟨f, rfl⟩ : ∃ g, f = g + 1 := ⟨f - 1, by simp only [T.fuel] at hf; omega⟩
    refine ⟨?_, drop_add H⟩
    have H0 : o.drop p = hdT w h x y ++ 44 :: (dec n ++ l) := by
      rw [H]
      simp only [T.body, List.append_assoc, List.cons_append, List.nil_append]
    obtain ⟨a1, H1⟩ := phead_ok hw hh hx hy (.inl rfl) H0
    obtain ⟨a2, H2⟩ := pnum_ok hk H1 hl
    rw [pcell, a1, ok_bind]
    simp only [if_true, a2, ok_bind]
    congr 1
    simp only [T.body, List.length_append, List.length_cons, List.length_nil]
    omega
  | two row w h x y a b iha ihb =>
    intro o l f p hn hf H hl
    obtain ⟨hw, hh, hx, hy, hna, hnb⟩ := hn
    simp only [T.fuel] at hf
    obtain ⟨f, rfl⟩ : ∃ g, f = g + 3 := ⟨f - 3, by omega⟩
    refine ⟨?_, drop_add H⟩
    have H0 : o.drop p = hdT w h x y ++ opn row :: (a.body ++ 44 :: (b.body ++ cls row :: l)) := by
      rw [H]
      simp only [T.body, List.append_assoc, List.cons_append, List.nil_append]
    obtain ⟨a1, H1⟩ := phead_ok hw hh hx hy (opn_cases row) H0
    obtain ⟨a2, H2⟩ := iha o _ (f + 2) _ hna (by omega) H1 (noDig_sign (.inr (.inl rfl)))
    obtain ⟨a3, H3⟩ := psign_ok (sg := [44, cls row]) H2 (.head _)
    obtain ⟨a4, H4⟩ := ihb o _ (f + 2) _ hnb (by omega) H3 (noDig_cls row)
    obtain ⟨a5, H5⟩ := psign_ok (sg := [44, cls row]) H4 (.tail _ (.head _))
    rw [pcell_box a1, pparts, a2, ok_bind, a3, ok_bind, if_pos rfl, pparts, a4, ok_bind, a5, ok_bind, if_neg (cls_ne row), ok_bind, ok_bind]
    simp only [T.box]
    congr 1
    simp only [T.body, List.length_append, List.length_cons, List.length_nil]
    omega
  | three row w h x y a b c iha ihb ihc =>
    intro o l f p hn hf H hl
    obtain ⟨hw, hh, hx, hy, hna, hnb, hnc⟩ := hn
    simp only [T.fuel] at hf
    obtain ⟨f, rfl⟩ : ∃ g, f = g + 4 := ⟨f - 4, by omega⟩
    refine ⟨?_, drop_add H⟩
    have H0 : o.drop p = hdT w h x y ++ opn row :: (a.body ++ 44 :: (b.body ++ 44 :: (c.body ++ cls row :: l))) := by
      rw [H]
      simp only [T.body, List.append_assoc, List.cons_append, List.nil_append]
    obtain ⟨a1, H1⟩ := phead_ok hw hh hx hy (opn_cases row) H0
    obtain ⟨a2, H2⟩ := iha o _ (f + 3) _ hna (by omega) H1 (noDig_sign (.inr (.inl rfl)))
    obtain ⟨a3, H3⟩ := psign_ok (sg := [44, cls row]) H2 (.head _)
    obtain ⟨a4, H4⟩ := ihb o _ (f + 3) _ hnb (by omega) H3 (noDig_sign (.inr (.inl rfl)))
    obtain ⟨a5, H5⟩ := psign_ok (sg := [44, cls row]) H4 (.head _)
    obtain ⟨a6, H6⟩ := ihc o _ (f + 3) _ hnc (by omega) H5 (noDig_cls row)
    obtain ⟨a7, H7⟩ := psign_ok (sg := [44, cls row]) H6 (.tail _ (.head _))
    rw [pcell_box a1, pparts, a2, ok_bind, a3, ok_bind, if_pos rfl, pparts, a4, ok_bind, a5, ok_bind, if_pos rfl, pparts, a6, ok_bind, a7, ok_bind, if_neg (cls_ne row), ok_bind, ok_bind, ok_bind]
    simp only [T.box]
    congr 1
    simp only [T.body, List.length_append, List.length_cons, List.length_nil]
    omega
/-- a strict prefix of m ++ r: a strict prefix of m, or m and a strict prefix of r -/
theorem pre_cases {u m r : List UInt8} (h : u <+: m ++ r) (hne : u ≠ m ++ r) : (u <+: m ∧ u ≠ m) ∨ ∃ u', u = m ++ u' ∧ u' <+: r ∧ u' ≠ r := by
  rcases Nat.lt_or_ge u.length m.length with hl | hl
  · exact .inl ⟨List.prefix_of_prefix_length_le h (List.prefix_append m r) (Nat.le_of_lt hl), fun e => by rw [e] at hl; exact Nat.lt_irrefl _ hl⟩
  · obtain ⟨u', rfl⟩ := List.prefix_of_prefix_length_le (List.prefix_append m r) h hl
    refine .inr ⟨u', rfl, ?_, fun e => hne (by rw [e])⟩
    exact (List.prefix_append_right_inj m).mp h
theorem nd_pre {u r : List UInt8} {c : UInt8} (h : u <+: c :: r) (hc : isDig c = false) : NoDig u := by
  cases u with
  | nil => exact NoDig.nil
  | cons d u =>
    obtain ⟨z, hz⟩ := h
    obtain ⟨rfl, -⟩ := List.cons.inj hz
    exact NoDig.cons hc
/-- one cell and the sign behind it, of a cut text -/
theorem step_cut {o u r : List UInt8} {a : T} {f p : Nat} {c : UInt8} {sg : List UInt8} {β : Type} {F : T → UInt8 → Nat → Res β}
    (ih : ∀ u, o.drop p = u → u <+: a.body → u ≠ a.body → Sk o (pcell o f p)) (hn : a.Nums) (hf : a.fuel ≤ f) (H : o.drop p = u) (hu : u <+: a.body ++ c :: r) (hne : u ≠ a.body ++ c :: r) (hc : isDig c = false) (hs : c ∈ sg) :
    (∃ k, ((pcell o f p).bind fun t q => (psign o q sg).bind fun d q => F t d q) = .bad k) ∨
      ∃ u' q, u' <+: r ∧ u' ≠ r ∧ pcell o f p = .ok a q ∧ psign o q sg = .ok c (q + 1) ∧ o.drop (q + 1) = u' := by
  rcases pre_cases hu hne with ⟨p1, q1⟩ | ⟨u2, rfl, hu2, hne2⟩
  · exact .inl (sk_end (ih u H p1 q1))
  · obtain ⟨a2, H2⟩ := pcell_ok a o u2 f p hn hf H (nd_pre hu2 hc)
    rcases psign_cut (sg := sg) H2 hu2 hs with ⟨u3, rfl, hu3, a3, H3⟩ | ⟨k, s⟩
    · exact .inr ⟨u3, _, hu3, fun e => hne2 (by rw [e]), a2, a3, H3⟩
    · exact .inl ⟨k, by rw [a2, ok_bind, s]; rfl⟩
theorem pcell_cut (t : T) : ∀ (o u : List UInt8) (f p : Nat), t.Nums → t.fuel ≤ f → o.drop p = u → u <+: t.body → u ≠ t.body → Sk o (pcell o f p) ∧ ((∀ w h x y n, t ≠ .pane w h x y n) → ∃ k, pcell o f p = .bad k) := by
  induction t with
  | pane w h x y n =>
    intro o u f p hn hf H hu hne
    obtain ⟨hw, hh, hx, hy, hk⟩ := hn
    obtain ⟨f, rfl⟩ : ∃ g, f = g + 1 := ⟨f - 1, by simp only [T.fuel] at hf; omega⟩
    refine ⟨?_, fun h => absurd rfl (h _ _ _ _ _)⟩
    have hu0 : u <+: hdT w h x y ++ 44 :: dec n := by
      simpa only [T.body, List.append_assoc, List.cons_append, List.nil_append] using hu
    rcases phead_cut hw hh hx hy (.inl rfl) H hu0 with ⟨u1, hu1, e1, a1, H1⟩ | s
    · rcases pnum_cut (r := []) hk H1 (by rw [List.append_nil]; exact hu1) NoDig.nil with ⟨u2, e2, hu2, a2, H2⟩ | s
      · refine absurd ?_ hne
        rw [List.prefix_nil.mp hu2, List.append_nil] at e2
        rw [e1, e2]
        simp only [T.body, List.append_assoc, List.cons_append, List.nil_append]
      · rw [pcell, a1, ok_bind]
        simp only [if_true]
        rcases s with ⟨k, s⟩ | ⟨b, q, s, hq⟩
        · exact .inl ⟨k, by rw [s]; rfl⟩
        · exact .inr ⟨_, q, by rw [s, ok_bind], hq⟩
    · obtain ⟨k, s⟩ := s
      exact .inl ⟨k, by rw [pcell, s]; rfl⟩
  | two row w h x y a b iha ihb =>
    intro o u f p hn hf H hu hne
    obtain ⟨hw, hh, hx, hy, hna, hnb⟩ := hn
    simp only [T.fuel] at hf
    obtain ⟨f, rfl⟩ : ∃ g, f = g + 3 := ⟨f - 3, by omega⟩
    have eb : (T.two row w h x y a b).body = hdT w h x y ++ opn row :: (a.body ++ 44 :: (b.body ++ [cls row])) := by
      simp only [T.body, List.append_assoc, List.cons_append, List.nil_append]
    rw [eb] at hu hne
    have main : ∃ k, pcell o (f + 3) p = .bad k := by
      rcases phead_cut hw hh hx hy (opn_cases row) H hu with ⟨u1, hu1, e1, a1, H1⟩ | ⟨k, s⟩
      · rw [pcell_box a1]
        refine bad_bind ?_
        have hne1 : u1 ≠ a.body ++ 44 :: (b.body ++ [cls row]) := fun e => hne (by rw [e1, e])
        rw [pparts]
        rcases step_cut (sg := [44, cls row]) (F := fun t c p => if c = 44 then (pparts o (pcell o (f + 2)) (cls row) (f + 1) p).bind fun ts p => .ok (t :: ts) p else .ok [t] p) (fun u h p q => (iha o u (f + 2) _ hna (by omega) h p q).1) hna (by omega) H1 hu1 hne1 (by decide) (.head _) with s | ⟨u2, q2, hu2, hne2, a2, a3, H2⟩
        · exact s
        · rw [a2, ok_bind, a3, ok_bind, if_pos rfl]
          refine bad_bind ?_
          rw [pparts]
          rcases step_cut (sg := [44, cls row]) (F := fun t c p => if c = 44 then (pparts o (pcell o (f + 2)) (cls row) f p).bind fun ts p => .ok (t :: ts) p else .ok [t] p) (fun u h p q => (ihb o u (f + 2) _ hnb (by omega) h p q).1) hnb (by omega) H2 hu2 hne2 (by cases row <;> decide) (.tail _ (.head _)) with s | ⟨u3, q3, hu3, hne3, -, -, -⟩
          · exact s
          · exact absurd (List.prefix_nil.mp hu3) hne3
      · exact ⟨k, by rw [pcell, s]; rfl⟩
    exact ⟨.inl main, fun _ => main⟩
  | three row w h x y a b c iha ihb ihc =>
    intro o u f p hn hf H hu hne
    obtain ⟨hw, hh, hx, hy, hna, hnb, hnc⟩ := hn
    simp only [T.fuel] at hf
    obtain ⟨f, rfl⟩ : ∃ g, f = g + 4 := ⟨f - 4, by omega⟩
    have eb : (T.three row w h x y a b c).body = hdT w h x y ++ opn row :: (a.body ++ 44 :: (b.body ++ 44 :: (c.body ++ [cls row]))) := by
      simp only [T.body, List.append_assoc, List.cons_append, List.nil_append]
    rw [eb] at hu hne
    have main : ∃ k, pcell o (f + 4) p = .bad k := by
      rcases phead_cut hw hh hx hy (opn_cases row) H hu with ⟨u1, hu1, e1, a1, H1⟩ | ⟨k, s⟩
      · rw [pcell_box a1]
        refine bad_bind ?_
        have hne1 : u1 ≠ a.body ++ 44 :: (b.body ++ 44 :: (c.body ++ [cls row])) := fun e => hne (by rw [e1, e])
        rw [pparts]
        rcases step_cut (sg := [44, cls row]) (F := fun t c p => if c = 44 then (pparts o (pcell o (f + 3)) (cls row) (f + 2) p).bind fun ts p => .ok (t :: ts) p else .ok [t] p) (fun u h p q => (iha o u (f + 3) _ hna (by omega) h p q).1) hna (by omega) H1 hu1 hne1 (by decide) (.head _) with s | ⟨u2, q2, hu2, hne2, a2, a3, H2⟩
        · exact s
        · rw [a2, ok_bind, a3, ok_bind, if_pos rfl]
          refine bad_bind ?_
          rw [pparts]
          rcases step_cut (sg := [44, cls row]) (F := fun t c p => if c = 44 then (pparts o (pcell o (f + 3)) (cls row) (f + 1) p).bind fun ts p => .ok (t :: ts) p else .ok [t] p) (fun u h p q => (ihb o u (f + 3) _ hnb (by omega) h p q).1) hnb (by omega) H2 hu2 hne2 (by decide) (.head _) with s | ⟨u3, q3, hu3, hne3, a4, a5, H3⟩
          · exact s
          · rw [a4, ok_bind, a5, ok_bind, if_pos rfl]
            refine bad_bind ?_
            rw [pparts]
            rcases step_cut (sg := [44, cls row]) (F := fun t c p => if c = 44 then (pparts o (pcell o (f + 3)) (cls row) f p).bind fun ts p => .ok (t :: ts) p else .ok [t] p) (fun u h p q => (ihc o u (f + 3) _ hnc (by omega) h p q).1) hnc (by omega) H3 hu3 hne3 (by cases row <;> decide) (.tail _ (.head _)) with s | ⟨u4, q4, hu4, hne4, -, -, -⟩
            · exact s
            · exact absurd (List.prefix_nil.mp hu4) hne4
      · exact ⟨k, by rw [pcell, s]; rfl⟩
    exact ⟨.inl main, fun _ => main⟩
end Mine

namespace Mine
local macro_rules | `(tactic| omega) => `(tactic| lia)
theorem words_P5 : True := by
  k_with_none
  trivial
theorem stp_inj_f {f g c : Int} (hf : 0 ≤ f ∧ f < 65536) (hg : 0 ≤ g ∧ g < 65536) (h : stp f c = stp g c) : f = g := by
  unfold stp at h
  have a1 : 0 ≤ f / 2 + f % 2 * 32768 ∧ f / 2 + f % 2 * 32768 < 65536 := by omega
  have a2 : 0 ≤ g / 2 + g % 2 * 32768 ∧ g / 2 + g % 2 * 32768 < 65536 := by omega
  have a3 : f / 2 + f % 2 * 32768 = g / 2 + g % 2 * 32768 := by
    generalize f / 2 + f % 2 * 32768 = u at *
    generalize g / 2 + g % 2 * 32768 = v at *
    omega
  have p1 : f % 2 = 0 ∨ f % 2 = 1 := by omega
  have p2 : g % 2 = 0 ∨ g % 2 = 1 := by omega
  clear h a1 a2
  rcases p1 with p1 | p1 <;> rcases p2 with p2 | p2 <;> rw [p1, p2] at a3 <;> omega
theorem stp_inj_c {f c d : Int} (hc : 0 ≤ c ∧ c < 256) (hd : 0 ≤ d ∧ d < 256) (h : stp f c = stp f d) : c = d := by
  unfold stp at h
  omega
theorem foldl_inj : ∀ (l : List Int) {f g : Int}, (0 ≤ f ∧ f < 65536) → (0 ≤ g ∧ g < 65536) → l.foldl stp f = l.foldl stp g → f = g
  | [], _, _, _, _, h => h
  | _ :: l, _, _, hf, hg, h => stp_inj_f hf hg (foldl_inj l (stp_rng _ _) (stp_rng _ _) h)
theorem byte_rng (c : UInt8) : 0 ≤ (c.toNat : Int) ∧ (c.toNat : Int) < 256 := by
  have := c.toNat_lt
  omega
/-- one octet turned: another sum -/
theorem sum1_turn (a b : List UInt8) (c d : UInt8) (h : sum1 (a ++ c :: b) = sum1 (a ++ d :: b)) : c = d := by
  unfold sum1 oInts at h
  simp only [List.map_append, List.map_cons, List.foldl_append, List.foldl_cons] at h
  have h1 := foldl_inj _ (stp_rng _ _) (stp_rng _ _) h
  have h2 := stp_inj_c (byte_rng c) (byte_rng d) h1
  exact UInt8.toNat_inj.mp (by omega)
theorem hx_inj : ∀ i j : Fin 16, hx (i.1 : Int) = hx (j.1 : Int) → i = j := by decide
theorem hx_inj' {a b : Int} (ha : 0 ≤ a ∧ a < 16) (hb : 0 ≤ b ∧ b < 16) (h : hx a = hx b) : a = b := by
  obtain ⟨i, rfl⟩ := Int.eq_ofNat_of_zero_le ha.1
  obtain ⟨j, rfl⟩ := Int.eq_ofNat_of_zero_le hb.1
  have := congrArg Fin.val (hx_inj ⟨i, by omega⟩ ⟨j, by omega⟩ h)
  exact congrArg Int.ofNat this
theorem dig_rng (a : Int) : 0 ≤ a % 16 ∧ a % 16 < 16 := ⟨Int.emod_nonneg _ (by decide), Int.emod_lt_of_pos _ (by decide)⟩
theorem dig_step {x y : Int} (h : x / 16 = y / 16) (h2 : x % 16 = y % 16) : x = y := by rw [← Int.mul_ediv_add_emod x 16, ← Int.mul_ediv_add_emod y 16, h, h2]
theorem hex4_inj {a b : Int} (ha : 0 ≤ a ∧ a < 65536) (hb : 0 ≤ b ∧ b < 65536) (h : hex4 a = hex4 b) : a = b := by
  unfold hex4 at h
  simp only [List.cons.injEq, and_true] at h
  obtain ⟨h1, h2, h3, h4⟩ := h
  have h1 := hx_inj' (dig_rng _) (dig_rng _) h1
  have h2 := hx_inj' (dig_rng _) (dig_rng _) h2
  have h3 := hx_inj' (dig_rng _) (dig_rng _) h3
  have h4 := hx_inj' (dig_rng _) (dig_rng _) h4
  have top : ∀ {x : Int}, 0 ≤ x ∧ x < 65536 → x / 4096 % 16 = x / 4096 := fun {x} h => Int.emod_eq_of_lt (Int.ediv_nonneg h.1 (by decide : (0 : Int) ≤ 4096)) (Int.ediv_lt_of_lt_mul (by decide : (0 : Int) < 4096) (show x < 16 * 4096 from h.2))
  rw [top ha, top hb] at h1
  rw [Int.ediv_one, Int.ediv_one] at h4
  have e : ∀ x : Int, x / 4096 = x / 256 / 16 := fun x => (Int.ediv_ediv_of_nonneg (x := x) (y := 256) (z := 16) (by decide)).symm
  have f : ∀ x : Int, x / 256 = x / 16 / 16 := fun x => (Int.ediv_ediv_of_nonneg (x := x) (y := 16) (z := 16) (by decide)).symm
  rw [e, e] at h1
  have g := dig_step h1 h2
  rw [f, f] at g
  exact dig_step (dig_step g h3) h4
/-- the head of a text is right: the comma, and the sum of what is behind it -/
def HeadOk (o : List UInt8) : Prop := o[4]? = some 44 ∧ hex4 (sum1 (o.drop 5)) = o.take 4
theorem text_ok (b : List UInt8) : HeadOk (text b) := ⟨rfl, rfl⟩
theorem text_len (b : List UInt8) : (text b).length = b.length + 5 := by
  simp only [text, hex4, List.length_append, List.length_cons, List.length_nil]
  omega
theorem text_drop (b : List UInt8) : (text b).drop 5 = b := rfl
/-- one sign of a text turned: its head is not right -/
theorem turned_bad (b : List UInt8) (k : Nat) (s : UInt8) (hk : k < (text b).length) (hne : (text b).take k ++ [s] ++ (text b).drop (k + 1) ≠ text b) : ¬ HeadOk ((text b).take k ++ [s] ++ (text b).drop (k + 1)) := by
  rintro ⟨h1, h2⟩
  by_cases h5 : 5 ≤ k
  · obtain ⟨j, rfl⟩ : ∃ j, k = 5 + j := ⟨k - 5, by omega⟩
    rw [text_len] at hk
    have hj : j < b.length := by omega
    have e1 : (text b).take (5 + j) = hex4 (sum1 b) ++ [44] ++ b.take j := by
      unfold text
      rw [List.take_append, List.take_of_length_le (by simp [hex4])]
      congr 2
      simp [hex4]
    have e2 : (text b).drop (5 + j + 1) = b.drop (j + 1) := by
      rw [show 5 + j + 1 = 5 + (j + 1) by omega, ← List.drop_drop, text_drop]
    rw [e1, e2] at h2 hne
    have h3 : hex4 (sum1 (b.take j ++ s :: b.drop (j + 1))) = hex4 (sum1 b) := by
      have : (hex4 (sum1 b) ++ [44] ++ b.take j ++ [s] ++ b.drop (j + 1)).drop 5 = b.take j ++ s :: b.drop (j + 1) := by
        simp [hex4]
      rw [this] at h2
      rw [h2]
      simp [hex4]
    have h4 := hex4_inj (sum1_rng _) (sum1_rng _) h3
    have hb : b = b.take j ++ b[j] :: b.drop (j + 1) := by
      rw [← List.drop_eq_getElem_cons hj, List.take_append_drop]
    have h6 : s = b[j] := by
      refine sum1_turn (b.take j) (b.drop (j + 1)) s b[j] ?_
      rw [← hb]
      exact h4
    apply hne
    rw [h6]
    have e3 : hex4 (sum1 b) ++ [44] ++ b.take j ++ [b[j]] ++ b.drop (j + 1) = hex4 (sum1 b) ++ [44] ++ (b.take j ++ b[j] :: b.drop (j + 1)) := by simp
    rw [e3, ← hb]
    rfl
  · have hd : ((text b).take k ++ [s] ++ (text b).drop (k + 1)).drop 5 = b := by
      have : k = 0 ∨ k = 1 ∨ k = 2 ∨ k = 3 ∨ k = 4 := by omega
      rcases this with rfl | rfl | rfl | rfl | rfl <;> rfl
    rw [hd] at h2
    apply hne
    generalize (text b).take k ++ [s] ++ (text b).drop (k + 1) = o at h1 h2 hd
    have hl : 4 < o.length := (List.getElem?_eq_some_iff.mp h1).1
    have h3 : o[4] = 44 := (List.getElem?_eq_some_iff.mp h1).2
    have h4 : o.drop 4 = 44 :: b := by rw [List.drop_eq_getElem_cons hl, h3, hd]
    rw [← List.take_append_drop 4 o, ← h2, h4]
    unfold text
    rw [List.append_assoc]
    rfl
theorem num4 {w h x y : Int} (a3 : 1 ≤ w) (a4 : 1 ≤ h) (a5 : 0 ≤ x) (a6 : x + w ≤ 50) (a7 : 0 ≤ y) (a8 : y + h ≤ 50) : num w ∧ num h ∧ num x ∧ num y := by
  unfold num
  omega
theorem rg_two {n n1 M wa wb w x : Int} (hM : 3 ≤ M) (a1 : 0 ≤ n) (a2 : n + 3 * M ≤ 99) (l1 : n < n1) (l2 : n1 ≤ n + M) (e1 : 1 ≤ wa) (e2 : 1 ≤ wb) (e3 : wa + wb + 1 = w) (a5 : 0 ≤ x) (a6 : x + w ≤ 50) :
    n + M ≤ 99 ∧ x + wa ≤ 50 ∧ 0 ≤ n1 ∧ n1 + M ≤ 99 ∧ 0 ≤ x + (wa + 1) ∧ x + (wa + 1) + wb ≤ 50 :=
  ⟨by lia, by lia, by lia, by lia, by lia, by lia⟩
theorem rg_three {n n1 n2 M wa wb wc w x : Int} (hM : 3 ≤ M) (a1 : 0 ≤ n) (a2 : n + 3 * M ≤ 99) (l1 : n < n1) (l2 : n1 ≤ n + M) (l3 : n1 < n2) (l4 : n2 ≤ n1 + M) (e1 : 1 ≤ wa) (e2 : 1 ≤ wb) (e3 : 1 ≤ wc) (e4 : wa + wb + wc + 2 = w) (a5 : 0 ≤ x) (a6 : x + w ≤ 50) :
    (n + M ≤ 99 ∧ x + wa ≤ 50 ∧ 0 ≤ n1 ∧ n1 + M ≤ 99 ∧ 0 ≤ x + (wa + 1) ∧ x + (wa + 1) + wb ≤ 50) ∧ 0 ≤ n2 ∧ n2 + M ≤ 99 ∧ 0 ≤ x + (wa + 1 + wb + 1) ∧ x + (wa + 1 + wb + 1) + wc ≤ 50 :=
  ⟨rg_two (wb := wb + wc + 1) (w := w) hM a1 a2 l1 l2 e1 (by lia) (by lia) a5 a6 |> fun ⟨b1, b2, b3, b4, b5, _⟩ => ⟨b1, b2, b3, b4, b5, by lia⟩, by lia, by lia, by lia, by lia⟩
theorem cs_two {x a b : Int} (e : a = b) : x + (b + 1) = x + a + 1 := by rw [e, Int.add_assoc]
theorem cs_three {x a b c d : Int} (e : a = b) (f : c = d) : x + (b + 1 + d + 1) = x + a + 1 + c + 1 := by rw [e, f, Int.add_assoc, Int.add_assoc, Int.add_assoc, Int.add_assoc, Int.add_assoc]
theorem sm_two {a b c d w : Int} (e : a = b) (f : c = d) (h : b + d + 1 = w) : a + c + 1 = w := by rw [e, f, h]
theorem sm_three {a b c d i j w : Int} (e : a = b) (f : c = d) (g : i = j) (h : b + d + j + 2 = w) : a + c + i + 2 = w := by rw [e, f, g, h]
theorem Tr.nums {d : Nat} {row : Bool} {w h x y n k : Int} {t : T} (H : Tr d row w h x y n t k) : 0 ≤ n → n + maxP d ≤ 99 → 1 ≤ w → 1 ≤ h → 0 ≤ x → x + w ≤ 50 → 0 ≤ y → y + h ≤ 50 → t.Nums ∧ t.wd = w ∧ t.hg = h ∧ t.Tiles x y := by
  induction H with
  | @pane d _ w h x y n k h1 h2 h3 h4 =>
    intro a1 a2 a3 a4 a5 a6 a7 a8
    obtain ⟨m1, m2, m3, m4⟩ := num4 a3 a4 a5 a6 a7 a8
    have := maxP_pos d
    exact ⟨⟨m1, m2, m3, m4, ⟨by omega, by omega⟩⟩, rfl, rfl, rfl, rfl, h1, h2⟩
  | @row2 d w h x y n n1 n2 wa wb a b e1 e2 e3 H1 H2 i1 i2 =>
    intro a1 a2 a3 a4 a5 a6 a7 a8
    obtain ⟨m1, m2, m3, m4⟩ := num4 a3 a4 a5 a6 a7 a8
    have hM := maxP_pos d
    obtain ⟨b1, b2, b3, b4, b5, b6⟩ := rg_two hM a1 a2 H1.le.1 H1.le.2 e1 e2 e3 a5 a6
    obtain ⟨p1, p2, p3, p4⟩ := i1 a1 b1 e1 a4 a5 b2 a7 a8
    obtain ⟨q1, q2, q3, q4⟩ := i2 b3 b4 e2 a4 b5 b6 a7 a8
    exact ⟨⟨m1, m2, m3, m4, p1, q1⟩, rfl, rfl, rfl, rfl, a3, a4, p3, q3, p4, q4.cast (cs_two p2) rfl, sm_two p2 q2 e3⟩
  | @row3 d w h x y n n1 n2 n3 wa wb wc a b c e1 e2 e3 e4 H1 H2 H3 i1 i2 i3 =>
    intro a1 a2 a3 a4 a5 a6 a7 a8
    obtain ⟨m1, m2, m3, m4⟩ := num4 a3 a4 a5 a6 a7 a8
    have hM := maxP_pos d
    obtain ⟨⟨b1, b2, b3, b4, b5, b6⟩, c1, c2, c3, c4⟩ := rg_three hM a1 a2 H1.le.1 H1.le.2 H2.le.1 H2.le.2 e1 e2 e3 e4 a5 a6
    obtain ⟨p1, p2, p3, p4⟩ := i1 a1 b1 e1 a4 a5 b2 a7 a8
    obtain ⟨q1, q2, q3, q4⟩ := i2 b3 b4 e2 a4 b5 b6 a7 a8
    obtain ⟨r1, r2, r3, r4⟩ := i3 c1 c2 e3 a4 c3 c4 a7 a8
    exact ⟨⟨m1, m2, m3, m4, p1, q1, r1⟩, rfl, rfl, rfl, rfl, a3, a4, p3, q3, r3, p4, q4.cast (cs_two p2) rfl, r4.cast (cs_three p2 q2) rfl, sm_three p2 q2 r2 e4⟩
  | @col2 d w h x y n n1 n2 wa wb a b e1 e2 e3 H1 H2 i1 i2 =>
    intro a1 a2 a3 a4 a5 a6 a7 a8
    obtain ⟨m1, m2, m3, m4⟩ := num4 a3 a4 a5 a6 a7 a8
    have hM := maxP_pos d
    obtain ⟨b1, b2, b3, b4, b5, b6⟩ := rg_two hM a1 a2 H1.le.1 H1.le.2 e1 e2 e3 a7 a8
    obtain ⟨p1, p2, p3, p4⟩ := i1 a1 b1 a3 e1 a5 a6 a7 b2
    obtain ⟨q1, q2, q3, q4⟩ := i2 b3 b4 a3 e2 a5 a6 b5 b6
    exact ⟨⟨m1, m2, m3, m4, p1, q1⟩, rfl, rfl, rfl, rfl, a3, a4, p2, q2, p4, q4.cast rfl (cs_two p3), sm_two p3 q3 e3⟩
  | @col3 d w h x y n n1 n2 n3 wa wb wc a b c e1 e2 e3 e4 H1 H2 H3 i1 i2 i3 =>
    intro a1 a2 a3 a4 a5 a6 a7 a8
    obtain ⟨m1, m2, m3, m4⟩ := num4 a3 a4 a5 a6 a7 a8
    have hM := maxP_pos d
    obtain ⟨⟨b1, b2, b3, b4, b5, b6⟩, c1, c2, c3, c4⟩ := rg_three hM a1 a2 H1.le.1 H1.le.2 H2.le.1 H2.le.2 e1 e2 e3 e4 a7 a8
    obtain ⟨p1, p2, p3, p4⟩ := i1 a1 b1 a3 e1 a5 a6 a7 b2
    obtain ⟨q1, q2, q3, q4⟩ := i2 b3 b4 a3 e2 a5 a6 b5 b6
    obtain ⟨r1, r2, r3, r4⟩ := i3 c1 c2 a3 e3 a5 a6 c3 c4
    exact ⟨⟨m1, m2, m3, m4, p1, q1, r1⟩, rfl, rfl, rfl, rfl, a3, a4, p2, q2, r2, p4, q4.cast rfl (cs_two p3), r4.cast rfl (cs_three p3 q3), sm_three p3 q3 r3 e4⟩
end Mine

namespace Mine
local macro_rules | `(tactic| omega) => `(tactic| lia)
theorem words_Z1 : True := by
  k_with_none
  trivial
open LCg
section
variable {prog : Program} {w : World} {A : Around} {E : Value → Shared → Prop} {s : Shared} {h₀ : Heap} {L : Addr} {m : Str → Option Value} {env : Env}
/-- a source of pairs of which none passes the test: the comprehension gives an empty list -/
inductive PairsNone (prog : Program) (w : World) (A : Around) (h₀ : Heap) (L : Addr) (m : Str → Option Value) (env : Env) (c : PySem.Expr) (a b : Str) (scope : Scope) (cl : List (Str × Addr)) (Q : Value → Shared → Prop) (xv : Value) (s₁ : Shared) : Prop
  | mk (I : Addr) (fp wr : List Addr) (n : Nat) (Pt : Nat → Array Value → Prop) (St : Nat → Heap → Prop) (Mid : Nat → Addr → Heap → Prop) (news : Led) (NE : Value → Value → Prop) (ex : xv = .ref I) (hh : A.handled = none) (F : Fr h₀ L s₁.heap m) (N : News h₀ L s₁.heap news)
    (W : WalksT prog w A I fp wr n Pt St Mid) (hst : St 0 s₁.heap) (hfp : ∀ b ∈ fp, b < s₁.heap.objs.size) (hL : L ∉ wr) (hwr : ∀ b ∈ wr, h₀.get? b = none) (off : ∀ p ∈ news, p.1 ∉ wr) (hPt : ∀ i vals, Pt i vals → ∃ x y, vals = #[x, y] ∧ NE x y)
    (test : ∀ C oC m₂ h tk x y (E' : Value → Shared → Prop) (Q' : Bool → Shared → Prop), NE x y → NsObj oC m₂ → m₂ a = some x → m₂ b = some y → Fr h₀ L h m → News h₀ L h ((C, oC) :: news) → (∀ tk', Q' false { s₁ with heap := h, toks := tk' }) →
      wpAny (model prog w) A (isTrue c (compEnvC scope cl C env) (eval c (compEnvC scope cl C env))) Q' E' { s₁ with heap := h, toks := tk })
    (fin : ∀ D h tk, Fr h₀ L h m → News h₀ L h ((D, lst []) :: news) → Off1 D news → Q (.ref D) { s₁ with heap := h, toks := tk }) : PairsNone prog w A h₀ L m env c a b scope cl Q xv s₁
theorem ListComp_none {elt iter c : PySem.Expr} {a b : Str} {pa pb tp : Pos} {kk : Nat} {scope : Scope} {cl : List (Str × Addr)} {pos : Pos} {Q : Value → Shared → Prop} (_F : Fr h₀ L s.heap m)
    (hclos : closureFor scope env = pure cl) (hcell : ∀ y ∈ scope.names, y.2 ≠ .cell) (hkind : scope.kind = .function)
    (hnames : ∀ y ∈ scope.names, y.2 = .local → scope.names.lookup y.1 = some .local) (hxa : scope.names.lookup a = some .local) (hxb : scope.names.lookup b = some .local) (hab : ¬ a = b)
    (h : wpAny (model prog w) A (eval iter env) (PairsNone prog w A h₀ L m env c a b scope cl Q) E s)
    (hs : ∀ x, foldedSetIterable iter env x = pure x := by intro _; rfl) :
    wpAny (model prog w) A (eval (.ListComp elt [⟨.Tuple [.Name a pa, .Name b pb] kk tp, iter, [c], 0⟩] scope pos) env) Q E s := by
  rw [eval_ListComp]
  refine wpAny_comprehension_free (use := none) rfl hs hclos hkind hnames (wpAny_mono h (fun xv s₁ h₁ => ?_) fun _ _ e => e)
  obtain ⟨I, fp, wr, n, Pt, St, Mid, news, NE, rfl, hh, F, N, W, hst, hfp, hLw, hwr, off, hPt, test, fin⟩ := h₁
  refine W.self 0 _ _ _ hst ?_
  refine wpAny_newObj_type (wpAny_newFunctionEnv hcell (by intro y hy; simp at hy) (fun h₁ hns₁ hsb₁ => ?_) hkind)
  dsimp only at hns₁ hsb₁ ⊢
  generalize hH2 : s₁.heap.push { cls := .type "list", dict := none, data := .seq ([] : List Value).toArray } = H2 at hns₁ hsb₁ ⊢
  have hC : H2.objs.size = s₁.heap.objs.size + 1 := by rw [← hH2, Heap.size_push]
  have ltD : ∀ x, x < s₁.heap.objs.size → x ≠ H2.objs.size ∧ x ≠ s₁.heap.objs.size := fun x hx => ⟨Nat.ne_of_lt (by rw [hC]; exact Nat.lt_succ_of_lt hx), Nat.ne_of_lt hx⟩
  have hDC : s₁.heap.objs.size ≠ H2.objs.size := by rw [hC]; exact Nat.ne_of_lt (Nat.lt_succ_self _)
  have old : ∀ x o, s₁.heap.get? x = some o → h₁.get? x = some o := fun x o e => hsb₁.extBut x o (ltD x (Heap.lt_size e)).1 (Heap.get?_push_of_some _ (hH2 ▸ Heap.get?_push_of_some _ e))
  have hDg : h₁.get? s₁.heap.objs.size = some (lst []) := hsb₁.extBut _ _ hDC (Heap.get?_push_of_some _ (hH2 ▸ Heap.get?_push_size _ rfl))
  have fresh : ∀ x, s₁.heap.objs.size ≤ x → h₀.get? x = none := fun x hx => by
    cases e : h₀.get? x with
    | none => rfl
    | some o => exact absurd (Heap.lt_size (F.keep x o e)) (Nat.not_lt.mpr hx)
  have hLlt : L < s₁.heap.objs.size := F.ns.lt
  have hD₀ := fresh _ (Nat.le_refl _)
  have hC₀ : h₀.get? H2.objs.size = none := fresh _ (by rw [hC]; exact Nat.le_succ _)
  have hCf : H2.objs.size ∉ fp := fun hm => (ltD _ (hfp _ hm)).1 rfl
  have hDf : s₁.heap.objs.size ∉ fp := fun hm => (ltD _ (hfp _ hm)).2 rfl
  have hCw : H2.objs.size ∉ wr := fun hm => hCf (W.sub _ hm)
  have hDw : s₁.heap.objs.size ∉ wr := fun hm => hDf (W.sub _ hm)
  have hnw : ∀ p ∈ news, p.1 < s₁.heap.objs.size := fun p hp => Heap.lt_size (N p hp).1
  have hst₁ : St 0 h₁ := W.frame _ _ _ hst fun x _ o e => old x o e
  have N₁ : News h₀ L h₁ ((s₁.heap.objs.size, lst []) :: news) := fun p hp => by
    rcases List.mem_cons.mp hp with rfl | hp
    · exact ⟨hDg, Ne.symm (ltD L hLlt).2, hD₀⟩
    · exact ⟨old _ _ (N p hp).1, (N p hp).2⟩
  refine codeAny_compStart_list ?_ (W.self 0 _ _ _ hst₁ ?_)
  all_goals
    refine kct_loop
      (fun k s' => ∃ h' tk i m', s' = { s₁ with heap := h', toks := tk } ∧ i ≤ n ∧ k = n + 1 - i ∧ St i h' ∧ Fr h₀ L h' m ∧ h'.Ns H2.objs.size m' ∧ News h₀ L h' ((s₁.heap.objs.size, lst []) :: news)) ?_ (n + 1)
      ⟨h₁, _, 0, _, rfl, Nat.zero_le _, rfl, hst₁, F.keeps old, hns₁, N₁⟩
    rintro k s' ⟨h', tk, i, m', rfl, hi, rfl, hst', F', hn', N'⟩
    by_cases hlt : i < n
    · refine W.item i _ _ _ hlt hst' fun T vals h₂ tk₂ hP hT hTu hMd hk₂ => ?_
      obtain ⟨x, y, rfl, hne⟩ := hPt i vals hP
      refine W.go _ _ _ i T _ _ _ hMd fun h₃ hst₃ hk₃ => ?_
      have hT₃ : h₃.IsTuple T #[x, y] := by
        obtain ⟨o, e, r⟩ := hTu
        exact ⟨o, hk₃ T o (W.apart i T _ hMd) e, r⟩
      have up₃ : ∀ z o, z ∉ wr → h'.get? z = some o → h₃.get? z = some o := fun z o hz e => hk₃ z o hz (hk₂ z o hz e)
      refine kcp_assign (env := compEnvC scope cl H2.objs.size env) hh hT₃ (lookup_relabel_local hxa) (lookup_relabel_local hxb) (by simp [compEnvC, relabel, hkind]) (hn'.at' fun o e => up₃ _ o hCw e) fun h₄ tk₄ hn₄ hs₄ => ?_
      have up : ∀ z o, z ∉ wr → z ≠ H2.objs.size → h'.get? z = some o → h₄.get? z = some o := fun z o h1 h2 e => hs₄ z o h2 (up₃ z o h1 e)
      have hst₄ : St (i + 1) h₄ := W.frame _ _ _ hst₃ fun z hz o e => hs₄ z o (fun q => hCf (by have q' : z = H2.objs.size := q; rw [← q']; exact hz)) e
      obtain ⟨oC, heC, hoC⟩ := ns_obj hn₄
      have F₄ : Fr h₀ L h₄ m := ⟨F'.ns.at' fun o e => up _ o hLw (ltD L hLlt).1 e, fun z o e => up z o (fun q => by rw [hwr z q] at e; cases e) (fun q => by rw [q, hC₀] at e; cases e) (F'.keep z o e), F'.above⟩
      have N₄ : News h₀ L h₄ ((s₁.heap.objs.size, lst []) :: news) := fun p hp => by
        have z := N' p hp
        rcases List.mem_cons.mp hp with rfl | hp
        · exact ⟨up _ _ hDw hDC z.1, z.2⟩
        · exact ⟨up _ _ (off p hp) (ltD _ (hnw p hp)).1 z.1, z.2⟩
      refine test H2.objs.size oC _ h₄ tk₄ x y _ _ hne hoC (by simp [hab]) (by simp) F₄ (fun p hp => ?_) fun tk' => ?_
      · rcases List.mem_cons.mp hp with rfl | hp
        · exact ⟨heC, Ne.symm (ltD L hLlt).1, hC₀⟩
        · exact N₄ p (.tail _ hp)
      · rw [if_neg Bool.false_ne_true]
        exact ⟨n + 1 - (i + 1), by omega, h₄, tk', i + 1, _, rfl, hlt, rfl, hst₄, F₄, hn₄, N₄⟩
    · obtain rfl : i = n := Nat.le_antisymm hi (Nat.not_lt.mp hlt)
      refine W.done _ _ _ hst' fun h₂ tk₂ hk₂ => ?_
      have F₂ : Fr h₀ L h₂ m := ⟨F'.ns.at' fun o e => hk₂ _ o hLw e, fun z o e => hk₂ z o (fun q => by rw [hwr z q] at e; cases e) (F'.keep z o e), F'.above⟩
      have N₂ : News h₀ L h₂ ((s₁.heap.objs.size, lst []) :: news) := fun p hp => by
        have z := N' p hp
        rcases List.mem_cons.mp hp with rfl | hp
        · exact ⟨hk₂ _ _ hDw z.1, z.2⟩
        · exact ⟨hk₂ _ _ (off p hp) z.1, z.2⟩
      refine ⟨m', hn'.at' fun o e => hk₂ _ o hCw e, fun h'' hs'' => fin _ h'' tk₂ (F₂.change hs'' (Ne.symm (ltD L hLlt).1) hC₀) (fun p hp => ?_) ?_⟩
      · refine ⟨hs''.extBut _ _ ?_ (N₂ p hp).1, (N₂ p hp).2⟩
        rcases List.mem_cons.mp hp with rfl | hp
        · exact hDC
        · exact (ltD _ (hnw p hp)).1
      · have o1 : ∀ {l : Led}, (∀ p ∈ l, p.1 < s₁.heap.objs.size) → Off1 s₁.heap.objs.size l := by
          intro l
          induction l with
          | nil => exact fun _ => trivial
          | cons x l ih => exact fun h => ⟨Nat.ne_of_lt (h x (.head _)), ih fun p hp => h p (.tail _ hp)⟩
        exact o1 hnw
theorem ints_get {xs : List Value} {ns : List Int} (h : IntsAre xs ns) : ∀ {i : Nat} {v : Value}, xs[i]? = some v → ∃ n t, v = .int n t ∧ ns[i]? = some n := by
  induction h with
  | nil => intro i v e; simp at e
  | cons n t _ ih =>
    intro i v e
    cases i with
    | zero => simp at e; subst e; exact ⟨n, t, rfl, rfl⟩
    | succ i => simp at e; obtain ⟨m, u, h1, h2⟩ := ih e; exact ⟨m, u, h1, by simpa using h2⟩
theorem nodup_at : ∀ {l : List Int}, l.Nodup → ∀ {i j : Nat} {n : Int}, l[i]? = some n → l[j]? = some n → i = j
  | [], _, i, _, _, h, _ => by simp at h
  | a :: l, hn, 0, 0, _, _, _ => rfl
  | a :: l, hn, 0, j + 1, n, h, k => by
    simp at h k
    subst h
    exact absurd (List.mem_of_getElem? k) (List.nodup_cons.mp hn).1
  | a :: l, hn, i + 1, 0, n, h, k => by
    simp at h k
    subst k
    exact absurd (List.mem_of_getElem? h) (List.nodup_cons.mp hn).1
  | a :: l, hn, i + 1, j + 1, n, h, k => by
    simp at h k
    exact congrArg (· + 1) (nodup_at (List.nodup_cons.mp hn).2 h k)
def NEI (x y : Value) : Prop := ∃ n k t u, x = .int n t ∧ y = .int k u ∧ n ≠ k
theorem PairsNone.zip {c : PySem.Expr} {a b : Str} {scope : Scope} {cl : List (Str × Addr)} {Q : Value → Shared → Prop} {z TI TO i1 i2 l1 l2 : Addr} {xs ys : List Value} {ns : List Int} {s₁ : Shared} {news : Led} {B : Nat} (hh : A.handled = none) (F : Fr h₀ L s₁.heap m) (N : News h₀ L s₁.heap news)
    (D : ZipApart z TI TO i1 i2 l1 l2)
    (st : IsZip s₁.heap z TI TO .none ∧ IsPair s₁.heap TI (.ref i1) (.ref i2) ∧ (∃ a b, IsPair s₁.heap TO a b) ∧ s₁.heap.IsListIter i1 l1 0 ∧ s₁.heap.IsListIter i2 l2 0 ∧ s₁.heap.IsList l1 xs.toArray ∧ s₁.heap.IsList l2 ys.toArray)
    (hx : IntsAre xs ns) (hy : IntsAre ys (ns.drop 1)) (hn : ns.Nodup) (hL : @LT.lt Nat _ L z ∧ @LT.lt Nat _ L TO ∧ @LT.lt Nat _ L i1 ∧ @LT.lt Nat _ L i2) (hz : @LT.lt Nat _ B z) (hTO : @LT.lt Nat _ B TO) (h1 : @LT.lt Nat _ B i1) (h2 : @LT.lt Nat _ B i2) (hle : ∀ p ∈ news, @LE.le Nat _ p.1 B)
    (test : ∀ C oC m₂ h tk x y (E' : Value → Shared → Prop) (Q' : Bool → Shared → Prop), NEI x y → NsObj oC m₂ → m₂ a = some x → m₂ b = some y → Fr h₀ L h m → News h₀ L h ((C, oC) :: news) → (∀ tk', Q' false { s₁ with heap := h, toks := tk' }) →
      wpAny (model prog w) A (isTrue c (compEnvC scope cl C env) (eval c (compEnvC scope cl C env))) Q' E' { s₁ with heap := h, toks := tk })
    (fin : ∀ D h tk, Fr h₀ L h m → News h₀ L h ((D, lst []) :: news) → Off1 D news → Q (.ref D) { s₁ with heap := h, toks := tk }) :
    PairsNone prog w A h₀ L m env c a b scope cl Q (.ref z) s₁ := by
  refine ⟨z, _, _, _, _, _, _, news, NEI, rfl, hh, F, N, WalksT.zip2 hh z TI TO i1 i2 l1 l2 D xs.toArray ys.toArray, st, ?_, ?_, ?_, ?_, ?_, test, fin⟩
  · obtain ⟨e1, e2, ⟨_, _, e3⟩, ⟨_, e4, _⟩, ⟨_, e5, _⟩, ⟨_, e6, _⟩, ⟨_, e7, _⟩⟩ := st
    intro q hq
    simp only [List.mem_cons, List.not_mem_nil, or_false] at hq
    rcases hq with rfl | rfl | rfl | rfl | rfl | rfl | rfl <;> exact Heap.lt_size (by assumption)
  · intro hm
    simp only [List.mem_cons, List.not_mem_nil, or_false] at hm
    obtain ⟨a1, a2, a3, a4⟩ := hL
    rcases hm with rfl | rfl | rfl | rfl
    · exact Nat.lt_irrefl _ a1
    · exact Nat.lt_irrefl _ a2
    · exact Nat.lt_irrefl _ a3
    · exact Nat.lt_irrefl _ a4
  · intro q hq
    simp only [List.mem_cons, List.not_mem_nil, or_false] at hq
    obtain ⟨a1, a2, a3, a4⟩ := hL
    refine Heap.get?_none_of_le (Nat.le_trans F.above ?_)
    rcases hq with rfl | rfl | rfl | rfl
    · exact Nat.le_of_lt a1
    · exact Nat.le_of_lt a2
    · exact Nat.le_of_lt a3
    · exact Nat.le_of_lt a4
  · intro p hp hm
    have := hle p hp
    simp only [List.mem_cons, List.not_mem_nil, or_false] at hm
    rcases hm with e | e | e | e
    · exact Nat.lt_irrefl _ (Nat.lt_of_lt_of_le hz (e ▸ this))
    · exact Nat.lt_irrefl _ (Nat.lt_of_lt_of_le hTO (e ▸ this))
    · exact Nat.lt_irrefl _ (Nat.lt_of_lt_of_le h1 (e ▸ this))
    · exact Nat.lt_irrefl _ (Nat.lt_of_lt_of_le h2 (e ▸ this))
  · rintro i vals ⟨x, y, ex, ey, rfl⟩
    obtain ⟨n, t, rfl, e1⟩ := ints_get hx (by simpa using ex)
    obtain ⟨k, u, rfl, e2⟩ := ints_get hy (by simpa using ey)
    refine ⟨_, _, rfl, n, k, t, u, rfl, rfl, ?_⟩
    rw [List.getElem?_drop] at e2
    intro e
    subst e
    have := nodup_at hn e1 e2
    omega
end
end Mine

namespace Mine
local macro_rules | `(tactic| omega) => `(tactic| lia)
theorem words_R40 : True := by
  k_with_none
  k_with "exec If" => (k_here; (with_reducible refine wpAny_If ?_); (refine fold_Q1 ?_; intro qk8w))
  k_with "exec Assign" => (k_here; (refine wpAny_Assign_Name ?_); (refine fold_Q1 ?_; intro qk8w))
  k_with "exec Return some" => (k_here; (refine wpAny_Return_some ?_); (refine fold_Q1 ?_; intro qk8w))
  k_with "eval Name" => (k_here; name_kind "globalImplicit"; (fail_if_success (with_reducible show wpAny _ _ (eval _ (compEnvC _ _ _ _)) _ _ _)); k_dflt (first | (name_is_builtin; refine' nameX_B ?Fw9 ?Xw9 ?Tw9 ?ew9 ?vw9 ?nw9 ?_ ?aw9 ?bw9; (case Fw9 => k_asm); (case Xw9 => k_asm); (case Tw9 => k_asm); (case aw9 => rfl); (case bw9 => rfl); (case ew9 => k_is); (case vw9 => boot_fast); (case nw9 => decide); k_whole) | (refine' nameX_K ?Fw9 ?Xw9 ?Tw9 ?ew9 ?_ ?aw9 ?bw9; (case Fw9 => k_asm); (case Xw9 => k_asm); (case Tw9 => k_asm); (case aw9 => rfl); (case bw9 => rfl); (case ew9 => k_is); k_whole)))
  k_with "eval Name" => (k_here; name_kind "local"; (fail_if_success (with_reducible show wpAny _ _ (eval _ (compEnvC _ _ _ _)) _ _ _)); k_dflt (refine' nameX_L ?Fw9 ?vw9 ?_ ?aw9 ?bw9; (case Fw9 => k_asm); (case aw9 => rfl); (case bw9 => rfl); (case vw9 => rfl); k_whole))
  k_with "eval Attribute Name" => (k_here; k_dflt (refine' own_L ?Fw9 ?Xw9 ?vw9 ?Nw9 ?iw9 ?jw9 ?k4w9 ?k5w9 ?k6w9 ?k7w9 ?k8w9 ?k9w9 ?_ ?aw9 ?bw9 ?cw9; (case Fw9 => k_asm); (case Xw9 => k_asm); (case aw9 => rfl); (case bw9 => rfl); (case cw9 => exact rfl); (case vw9 => rfl); (case Nw9 => k_asm); (case iw9 => k_mem); (case jw9 => k_mem); (case k4w9 => k_is); (case k5w9 => k_is); (case k6w9 => k_is); (case k7w9 => k_is); (case k8w9 => k_get); (case k9w9 => k_handed); k_whole))
  k_with "getAttr ref" => (k_here; k_dflt (refine' get_own ?k1w9 ?k2w9 ?k3w9 ?k4w9 ?k5w9 ?k6w9 ?k7w9 ?k8w9 ?k9w9 ?_; (case k1w9 => k_asm); (case k2w9 => k_asm); (case k3w9 => k_inst); (case k4w9 => k_is); (case k5w9 => k_is); (case k6w9 => k_is); (case k7w9 => k_is); (case k8w9 => k_get); (case k9w9 => k_handed); k_whole))
  k_with "ite" => (first | with_reducible refine ite_tt ?_ | with_reducible refine ite_ff ?_ | with_reducible refine ite_True_then ?_)
  k_with "WhlIf" => (first | (refine WhlIf.yes (by (simp only [decide_eq_true_eq]; omega)) ?_) | (refine WhlIf.no (by (simp only [decide_eq_false_iff_not]; omega)) ?_))
  k_with "subscriptTail" => (k_here; (with_reducible show wpAny _ _ (subscriptTail _ (PySem.Expr.Slice _ _ none _) (Value.bytes (List.toArray _) _) (Value.ref _)) _ _ _); (with_reducible rename Fr _ _ _ _ => F'w); (with_reducible rename News _ _ _ _ => N'w); first | (refine bslice_ij (s := ⟨_, _, _, _, _⟩) F'w N'w (by omega) (by omega) (by omega) (by first | with_reducible assumption | exact rfl) ?_; intro h'w t'w k'w F'w N'w; (try k_sweep)) | (refine bslice_j (s := ⟨_, _, _, _, _⟩) F'w N'w (by omega) (by omega) (by first | with_reducible assumption | exact rfl) ?_; intro h'w t'w k'w F'w N'w; (try k_sweep)) | (refine bslice_i (s := ⟨_, _, _, _, _⟩) F'w N'w (by omega) (by omega) (by first | with_reducible assumption | exact rfl) ?_; intro h'w t'w k'w F'w N'w; (try k_sweep)))
  k_with "exec Raise some none" => (k_here; (with_reducible show wpAny _ _ (exec (Stmt.Raise (some (PySem.Expr.Call (PySem.Expr.Name _ _) [_] [] _)) none _) _) _ _ _); k_dflt (refine' Raise_bad ?Fw9 ?Xw9 ?Tw9 ?hw9 ?_ ?ew9 ?kw9 ?xw9; (case Fw9 => k_asm); (case Xw9 => k_asm); (case Tw9 => k_asm); (case hw9 => rfl); (case ew9 => rfl); (case kw9 => rfl); (case xw9 => rfl); k_whole))
  k_with "RaiseB" => (k_dflt (refine' raise_here ?Bw9 ?Fw9 ?Xw9 ?Nw9 ?Tw9 ?kw9 ?dw9 ?_; (case Bw9 => k_asm); (case Fw9 => k_asm); (case Xw9 => k_asm); (case Nw9 => k_asm); (case Tw9 => k_asm); (case kw9 => rfl); (case dw9 => ktr_room)); intro e9w dd9w tk9w k9w h9w R9w U9w)
  k_with "leaving ref" => (k_here; (refine' raise_next ?Kw9 ?Fw9 ?Rw9 ?Uw9 ?_; (case Rw9 => assumption); (case Kw9 => assumption); (case Uw9 => assumption); (case Fw9 => assumption)); intro h9w R9w U9w)
  k_with "compareOp NotIn bytes ref" => (k_here; k_dflt (refine' notin_signs ?Nw9 ?tw9 ?iw9 ?_; (case Nw9 => k_asm); (case tw9 => k_mem); (case iw9 => first | assumption | exact .cons .nil | exact .cons (.cons .nil) | exact .cons (.cons (.cons .nil))); k_whole))
  k_with "call ref" => (k_here; (with_reducible show wpAny _ _ (call (Value.ref _) _ _) _ _ _); (fail_if_success (with_reducible show wpAny _ _ (call (Value.ref 78) _ _) _ _ _)); (fail_if_success (with_reducible show wpAny _ _ (call (Value.ref 175) _ _) _ _ _)); refine stop_of ?_)
  k_with "UnrEnd" => (k_here; (refine' unr_keep ?Fw9 ?Nw9 ?ow9 ?_; (case Fw9 => assumption); (case Nw9 => k_asm); (case ow9 => exact fun p hp => Nat.ne_of_lt ((by assumption : ∀ p ∈ _, p.1 < _) p hp)); k_whole))
  k_with "exec While BoolOp" => (k_here; k_dflt (refine whl_start 100 ?_))
  k_with "execs cons" => (k_here; (try k_gentoks); (try (refine fold_Q ?_; intro qk9w ek9w)); (with_reducible refine wpAny_execs_cons ?_); (try dsimp only))
  k_with "storeName" => (k_here; k_dflt (refine' storeX_M ?Fw9 ?Nw9 ?_ ?aw9 ?bw9; (case Fw9 => k_asm); (case Nw9 => k_asm); (case aw9 => rfl); (case bw9 => rfl); k_whole; intro m9w h'w t9w F'w N'w; (try k_sweep); (try dsimp only)))
  k_with "storeName" => (k_here; (first | with_reducible refine tok_intA ?_ | with_reducible refine tok_intS ?_ | with_reducible refine tok_bytA ?_ | with_reducible refine tok_bytS ?_); intro t9w)
  k_with "call builtin:list.append" => (k_here; (first | with_reducible refine tok_appA ?_ | with_reducible refine tok_appS ?_); intro t9w)
  k_with "call ref" => (k_here; (with_reducible show wpAny _ _ (call (Value.ref 78) _ _) _ _ _); refine stop_of ?_)
  k_with "callWith ref" => (k_here; (with_reducible show wpAny _ _ (callWith _ (Value.ref _) _ (backTo _ (starEach [] _)) []) _ _ _); k_dflt (refine' callWith_K0 ?k1w9 ?k2w9 ?_; (case k1w9 => k_in); (case k2w9 => k_is); k_whole))
  k_with "exec While Name" => (k_here; refine stop_of ?_)
  k_with "subscriptTail" => (k_here; (with_reducible show wpAny _ _ (subscriptTail _ _ (Value.ref _) (Value.str _ _)) _ _ _); k_dflt (refine kda_item (knd := PySem.strKind _ _) (by k_asm) (by k_mem) (by assumption) (strKind_is _ _ _ _) (by rfl) ?_))
  k_with "setItem ref str" => (k_here; k_dflt (refine' kda_set (knd := PySem.strKind _ _) ?Fw9 ?Nw9 ?Uw9 ?dw9 (strKind_is _ _ _ _) ?zw9 ?_; (case Fw9 => k_asm); (case Nw9 => k_asm); (case Uw9 => k_updF); (case dw9 => assumption); (case zw9 => rw [sizeLine_eq]; exact Nat.le_of_ble_eq_true (by with_unfolding_all rfl))); intro h'w o'w F'w N'w hd'w; (try dsimp only at N'w))
  k_with "call builtin:len" => (k_here; k_dflt (refine i_len (by k_asm) (by k_mem) (by assumption) (by omega) ?_))
  k_with "exec For Name Name cons nil" => (k_here; (rename Fr _ _ _ _ => lF'w); (with_unfolding_all refine' For_invVF lF'w ?k1w9 ?k2w9 ?_; (case k1w9 => exact rfl); (case k2w9 => exact rfl); k_whole))
  k_with "call ref" => (k_here; (with_reducible show wpAny _ _ (call (Value.ref 175) _ _) _ _ _); refine stop_of ?_)
  k_with "call builtin:sorted" => (k_here; refine stop_of ?_)
  k_with "eval ListComp" => (k_here; refine stop_of ?_)
  trivial
section
variable {w : World} {mean : ExcName → Option Value} {mg mb : Str → Option Value}
theorem c_mkrd (o : List UInt8) (t1 t2 : Tok) (p : Int) (rest : Led) :
   CT w mean mg mb 175 [.bytes o.toArray t1, .int p t2] 10 rest
     (fun r n' => ∃ a d D, r = .ref a ∧ n' = (a, instObj 175 d) :: (d, D) :: rest ∧ IsRd w D o p 0 ∧ (∀ p ∈ rest, p.1 < d) ∧ @LT.lt Nat _ d a) := by
  intro dp un gd cn cs a ccd cl outer A₀ base h₀ L m s Q E B F X N T hk hdp hun hQ
  k_dflt (refine' call_cls ?k1 ?k2 ?k3 ?k4 ?k5 ?k6 ?_; (case k1 => k_asm); (case k2 => k_asm); (case k3 => k_asm); (case k4 => k_is); (case k5 => k_is); (case k6 => k_is); k_whole; intro x' d' h' F' N' l1 l2; (try k_lt l1); (try k_lt2 l2); (try k_sweep))
  k_dflt ktr_enter
  rename Fr _ _ _ _ => lF9
  refine fold_m lF9 ?_
  clear lF9
  intro m9 lF9
  k_steps
  refine hQ _ (_ :: _ :: rest) _ _ (by k_asm) (by k_asm) ⟨_, _, _, rfl, rfl, isRd_mk, tb_ltOf (by tbn_lt), by tbn_below⟩
end
def rd (o : List UInt8) : Res T := (pcell o 25 5).bind fun t q => if q < o.length then .bad q else .ok t q
section
variable {w : World} {mean : ExcName → Option Value} {mg mb : Str → Option Value}
theorem c_read1 (o : List UInt8) (t : Tok) (news : Led) (ho : o.length ≤ 900) (h4 : o[4]? ≠ some 44) :
   CTR w mean mg mb 184 [.bytes o.toArray t] 560 news (fun _ _ => False) (fun n => n = 0) news := by
  intro dp un gd cn cs a ccd cl outer A₀ base h₀ L m s Q E B F X N T hk hdp hun hQ hE
  have hne : (((o.take 5).drop 4).toArray.toList != ([44] : List UInt8).toArray.toList) = true := by
    simp only [bne_iff_ne, ne_eq]
    intro e
    apply h4
    have := congrArg (fun l : List UInt8 => l[0]?) e
    simpa using this
  generalize hr4 : (o.take 5).drop 4 = r4 at hne
  have hr5 : (o.take (5 : Int).toNat).drop (4 : Int).toNat = r4 := hr4
  refine wpAny_call ?_
  k_dflt ktr_enter
  rename Fr _ _ _ _ => lF9
  refine fold_m lF9 ?_
  clear lF9
  intro m9 lF9
  k_steps
  exact hE _ _ _ _ _ _ _ _ _ rfl (by assumption) (by assumption) (.head _) (fun q hq => .tail _ hq) (by assumption)
theorem four_at {o : List UInt8} (h : o[4]? = some 44) : (o.take (5 : Int).toNat).drop (4 : Int).toNat = [44] := one_at (p := 4) h
theorem c_read2 (o : List UInt8) (t : Tok) (news : Led) (ho : o.length ≤ 900) (h4 : o[4]? = some 44) (h5 : hex4 (sum1 (o.drop 5)) ≠ o.take 4) :
   CTR w mean mg mb 184 [.bytes o.toArray t] 560 news (fun _ _ => False) (fun n => n = 0) news := by
  intro dp un gd cn cs a ccd cl outer A₀ base h₀ L m s Q E B F X N T hk hdp hun hQ hE
  have hr4 := four_at h4
  have hr5 : o.drop (5 : Int).toNat = o.drop 5 := rfl
  have hr6 : o.take (4 : Int).toNat = o.take 4 := rfl
  have hne : ((hex4 (sum1 (o.drop 5))).toArray.toList != (o.take 4).toArray.toList) = true := by simpa using h5
  refine wpAny_call ?_
  k_dflt ktr_enter
  rename Fr _ _ _ _ => lF9
  refine fold_m lF9 ?_
  clear lF9
  intro m9 lF9
  k_steps
  unfold Stop
  (try (refine fold_Q ?_; intro qk9 ek9)); k_dflt (refine CT.use (c_sum (o.drop 5) _ _ (Nat.le_trans (by rw [List.length_drop]; exact Nat.sub_le _ _) (Nat.le_trans ho (by decide)))) (by k_asm) (by k_asm) (by k_asm) (by k_asm) (by k_asm) (by first | assumption | exact rfl) (by first | exact room_of hdp (by first | exact Nat.le_of_ble_eq_true rfl | exact Nat.le_add_right_of_le (Nat.le_of_ble_eq_true rfl) | omega) | (simp only [depth_under_make, depth_under_kw, depth_in1, depth_deeper, depth_caller, ktrTop]; omega) | ktr_room) (by first | exact units_of hun (by first | exact Nat.le_of_ble_eq_true rfl | exact Nat.le_add_right_of_le (Nat.le_of_ble_eq_true rfl) | omega) | (simp only [units_in1, units_deeper, Around.mark_units, units_caller, ktrTop]; omega) | ((try simp only [units_in1, units_deeper, Around.mark_units, units_caller] at *); (try dsimp only [ktrTop] at *); omega)) ?_)
  refine use3 ?_
  intro h' tk' F' P9 rQ9 nQ9 kQ9
  obtain ⟨u, er9, en9⟩ := kQ9
  refine eq_rn er9 en9 ?_
  clear er9 en9
  (try clear nQ9)
  (try clear rQ9)
  intro N'
  (try clear P9)
  k_sweep
  k_steps
  unfold Stop
  (try (refine fold_Q ?_; intro qk9 ek9)); k_dflt (refine CT.use (c_hex (sum1 (o.drop 5)) _ (sum1_rng _).1 (sum1_rng _).2 _) (by k_asm) (by k_asm) (by k_asm) (by k_asm) (by k_asm) (by first | assumption | exact rfl) (by first | exact room_of hdp (by first | exact Nat.le_of_ble_eq_true rfl | exact Nat.le_add_right_of_le (Nat.le_of_ble_eq_true rfl) | omega) | (simp only [depth_under_make, depth_under_kw, depth_in1, depth_deeper, depth_caller, ktrTop]; omega) | ktr_room) (by first | exact units_of hun (by first | exact Nat.le_of_ble_eq_true rfl | exact Nat.le_add_right_of_le (Nat.le_of_ble_eq_true rfl) | omega) | (simp only [units_in1, units_deeper, Around.mark_units, units_caller, ktrTop]; omega) | ((try simp only [units_in1, units_deeper, Around.mark_units, units_caller] at *); (try dsimp only [ktrTop] at *); omega)) ?_)
  refine use3 ?_
  intro h' tk' F' P9 rQ9 nQ9 kQ9
  obtain ⟨u, er9, en9⟩ := kQ9
  refine eq_rn er9 en9 ?_
  clear er9 en9
  (try clear nQ9)
  (try clear rQ9)
  intro N'
  (try clear P9)
  k_sweep
  k_steps
  exact hE _ _ _ _ _ _ _ _ _ rfl (by assumption) (by assumption) (.head _) (fun q hq => .tail _ hq) (by assumption)
theorem c_read3 (o : List UInt8) (t : Tok) (news : Led) (ho : o.length ≤ 900) (h4 : o[4]? = some 44) (h5 : hex4 (sum1 (o.drop 5)) = o.take 4) (hout : pcell o 25 5 ≠ .out) (b : Bool)
   (hT : ∀ t q, rd o = .ok t q → t.leafs ≤ 40 ∧ t.dep ≤ 10 ∧ t.panes.Nodup ∧ ∀ v news, CellIn w news v t → CT w mean mg mb 108 [v] 400 news (fun r n' => r = .bool b ∧ n' = news)) :
   CTR w mean mg mb 184 [.bytes o.toArray t] 560 news (fun r n' => ∃ t q new, rd o = .ok t q ∧ b = true ∧ CellIn w new r t ∧ n' = new ++ news ∧ Apart new news)
     (fun n => (∃ k : Nat, rd o = .bad k ∧ n = k) ∨ (b = false ∧ (∃ t q, rd o = .ok t q) ∧ n = o.length)) news := by
  intro dp un gd cn cs a ccd cl outer A₀ base h₀ L m s Q E B F X N T hk hdp hun hQ hE
  have hr4 := four_at h4
  have hr5 : o.drop (5 : Int).toNat = o.drop 5 := rfl
  have hr6 : o.take (4 : Int).toNat = o.take 4 := rfl
  have hne : ((hex4 (sum1 (o.drop 5))).toArray.toList != (o.take 4).toArray.toList) = false := by simpa using h5
  refine wpAny_call ?_
  k_dflt ktr_enter
  rename Fr _ _ _ _ => lF9
  refine fold_m lF9 ?_
  clear lF9
  intro m9 lF9
  k_steps
  unfold Stop
  (try (refine fold_Q ?_; intro qk9 ek9)); k_dflt (refine CT.use (c_sum (o.drop 5) _ _ (Nat.le_trans (by rw [List.length_drop]; exact Nat.sub_le _ _) (Nat.le_trans ho (by decide)))) (by k_asm) (by k_asm) (by k_asm) (by k_asm) (by k_asm) (by first | assumption | exact rfl) (by first | exact room_of hdp (by first | exact Nat.le_of_ble_eq_true rfl | exact Nat.le_add_right_of_le (Nat.le_of_ble_eq_true rfl) | omega) | (simp only [depth_under_make, depth_under_kw, depth_in1, depth_deeper, depth_caller, ktrTop]; omega) | ktr_room) (by first | exact units_of hun (by first | exact Nat.le_of_ble_eq_true rfl | exact Nat.le_add_right_of_le (Nat.le_of_ble_eq_true rfl) | omega) | (simp only [units_in1, units_deeper, Around.mark_units, units_caller, ktrTop]; omega) | ((try simp only [units_in1, units_deeper, Around.mark_units, units_caller] at *); (try dsimp only [ktrTop] at *); omega)) ?_)
  refine use3 ?_
  intro h' tk' F' P9 rQ9 nQ9 kQ9
  obtain ⟨u, er9, en9⟩ := kQ9
  refine eq_rn er9 en9 ?_
  clear er9 en9
  (try clear nQ9)
  (try clear rQ9)
  intro N'
  (try clear P9)
  k_sweep
  k_steps
  unfold Stop
  (try (refine fold_Q ?_; intro qk9 ek9)); k_dflt (refine CT.use (c_hex (sum1 (o.drop 5)) _ (sum1_rng _).1 (sum1_rng _).2 _) (by k_asm) (by k_asm) (by k_asm) (by k_asm) (by k_asm) (by first | assumption | exact rfl) (by first | exact room_of hdp (by first | exact Nat.le_of_ble_eq_true rfl | exact Nat.le_add_right_of_le (Nat.le_of_ble_eq_true rfl) | omega) | (simp only [depth_under_make, depth_under_kw, depth_in1, depth_deeper, depth_caller, ktrTop]; omega) | ktr_room) (by first | exact units_of hun (by first | exact Nat.le_of_ble_eq_true rfl | exact Nat.le_add_right_of_le (Nat.le_of_ble_eq_true rfl) | omega) | (simp only [units_in1, units_deeper, Around.mark_units, units_caller, ktrTop]; omega) | ((try simp only [units_in1, units_deeper, Around.mark_units, units_caller] at *); (try dsimp only [ktrTop] at *); omega)) ?_)
  refine use3 ?_
  intro h' tk' F' P9 rQ9 nQ9 kQ9
  obtain ⟨u, er9, en9⟩ := kQ9
  refine eq_rn er9 en9 ?_
  clear er9 en9
  (try clear nQ9)
  (try clear rQ9)
  intro N'
  (try clear P9)
  k_sweep
  k_steps
  unfold Stop
  (try (refine fold_Q ?_; intro qk9 ek9)); k_dflt (refine CT.use (c_mkrd o _ _ 5 _) (by k_asm) (by k_asm) (by k_asm) (by k_asm) (by k_asm) (by first | assumption | exact rfl) (by first | exact room_of hdp (by first | exact Nat.le_of_ble_eq_true rfl | exact Nat.le_add_right_of_le (Nat.le_of_ble_eq_true rfl) | omega) | (simp only [depth_under_make, depth_under_kw, depth_in1, depth_deeper, depth_caller, ktrTop]; omega) | ktr_room) (by first | exact units_of hun (by first | exact Nat.le_of_ble_eq_true rfl | exact Nat.le_add_right_of_le (Nat.le_of_ble_eq_true rfl) | omega) | (simp only [units_in1, units_deeper, Around.mark_units, units_caller, ktrTop]; omega) | ((try simp only [units_in1, units_deeper, Around.mark_units, units_caller] at *); (try dsimp only [ktrTop] at *); omega)) ?_)
  refine use3 ?_
  intro h' tk' F' P9 rQ9 nQ9 kQ9
  obtain ⟨rda, rdd, D, er9, en9, hD, l1, l2⟩ := kQ9
  refine eq_rn er9 en9 ?_
  clear er9 en9
  (try clear nQ9)
  (try clear rQ9)
  intro N'
  (try clear P9)
  revert N'
  revert D
  refine isRd_all ?_
  intro k1 k2 k3 t1 t2 t3 N'
  k_sweep
  k_steps
  have hrd : rda ≠ rdd := Nat.ne_of_gt l2
  have hrn : ∀ q ∈ news, q.1 ≠ rdd := fun q hq => Nat.ne_of_lt (l1 q hq)
  have hrn2 : ∀ q ∈ news, q.1 ≠ rda := fun q hq => Nat.ne_of_lt (Nat.lt_trans (l1 q hq) l2)
  unfold Stop
  (try (refine fold_Q ?_; intro qk9 ek9)); k_dflt (refine CTR.use (c_cell 25 rda rdd _ o 5 0 isRd_mk _ (Nat.le_trans ho (by decide)) hrn hrd (by decide) (by decide) hout) (by k_asm) (by k_asm) (by k_asm) (by k_asm) (by k_asm) (by first | assumption | exact rfl) (by first | exact room_of hdp (by first | exact Nat.le_of_ble_eq_true rfl | exact Nat.le_add_right_of_le (Nat.le_of_ble_eq_true rfl) | omega) | (simp only [depth_under_make, depth_under_kw, depth_in1, depth_deeper, depth_caller, ktrTop]; omega) | ktr_room) (by first | exact units_of hun (by first | exact Nat.le_of_ble_eq_true rfl | exact Nat.le_add_right_of_le (Nat.le_of_ble_eq_true rfl) | omega) | (simp only [units_in1, units_deeper, Around.mark_units, units_caller, ktrTop]; omega) | ((try simp only [units_in1, units_deeper, Around.mark_units, units_caller] at *); (try dsimp only [ktrTop] at *); omega)) ?_ ?_)
  rotate_left
  · rintro e9 dd9 gg9 tk9 n9 u9 nr9 h9 k9 ⟨kb, hb, rfl⟩ F9 R9 m9 s9 U9
    k_steps
    exact hE _ _ _ _ _ _ _ _ _ (.inl ⟨kb, by unfold rd; rw [hb]; rfl, rfl⟩) (by assumption) (by assumption) m9 s9 (by assumption)
  refine use3 ?_
  intro h' tk' F' P9 rQ9 nQ9 kQ9
  obtain ⟨t', q, D', new, hp, hD', en9, hc, hab⟩ := kQ9
  refine eq_n en9 ?_
  clear en9
  (try clear nQ9)
  (try clear rQ9)
  intro N'
  (try clear P9)
  obtain ⟨va, rfl⟩ := hc.ref
  revert N'
  revert D'
  refine isRd_all ?_
  intro k1 k2 k3 t1 t2 t3 N'
  k_sweep
  by_cases hq : q < o.length
  · k_steps
    exact hE _ _ _ _ _ _ _ _ _ (.inl ⟨q, by unfold rd; rw [hp, ok_bind, if_pos hq], rfl⟩) (by assumption) (by assumption) (.head _) (fun p hp => .tail _ (.tail _ (.tail _ (List.mem_append.mpr (.inr hp))))) (by assumption)
  have hrd9 : rd o = .ok t' q := by unfold rd; rw [hp, ok_bind, if_neg hq]
  obtain ⟨hlf, hdp9, hnd, hti⟩ := hT t' q hrd9
  k_steps
  unfold Stop
  (try (refine fold_Q ?_; intro qk9 ek9)); k_dflt (refine CT.use (c_panes t' _ new _ ?hs hc hlf) (by k_asm) (by k_asm) (by k_asm) (by k_asm) (by k_asm) (by first | assumption | exact rfl) (by first | exact room_of hdp (by first | exact Nat.le_of_ble_eq_true rfl | exact Nat.le_add_right_of_le (Nat.le_of_ble_eq_true rfl) | omega) | (simp only [depth_under_make, depth_under_kw, depth_in1, depth_deeper, depth_caller, ktrTop]; omega) | ktr_room) (by first | exact units_of hun (by first | exact Nat.le_of_ble_eq_true rfl | exact Nat.le_add_right_of_le (Nat.le_of_ble_eq_true rfl) | omega) | (simp only [units_in1, units_deeper, Around.mark_units, units_caller, ktrTop]; omega) | ((try simp only [units_in1, units_deeper, Around.mark_units, units_caller] at *); (try dsimp only [ktrTop] at *); omega)) ?_)
  case hs => exact fun p hp => .tail _ (.tail _ (List.mem_append.mpr (.inl hp)))
  refine use3 ?_
  intro h' tk' F' P9 rQ9 nQ9 kQ9
  obtain ⟨l, vs, k, er9, en9, hi⟩ := kQ9
  refine eq_rn er9 en9 ?_
  clear er9 en9
  (try clear nQ9)
  (try clear rQ9)
  intro N'
  (try clear P9)
  k_sweep
  k_steps
  unfold Stop
  have hpl := panes_len t'
  k_dflt (refine kso_sorted (by k_asm) (by k_asm) ⟨_, (N' _ (.head _)).1, rfl, _, rfl⟩ hi (by omega) ?_)
  intro DL vs' ns' c h' F' N' hlt hi' hlen hperm hsort _
  k_steps
  unfold Stop
  (try (refine fold_Q ?_; intro qk9 ek9)); k_dflt (refine CT.use (hti _ _ (hc.mono ?hs)) (by k_asm) (by k_asm) (by k_asm) (by k_asm) (by k_asm) (by first | assumption | exact rfl) (by first | exact room_of hdp (by first | exact Nat.le_of_ble_eq_true rfl | exact Nat.le_add_right_of_le (Nat.le_of_ble_eq_true rfl) | omega) | (simp only [depth_under_make, depth_under_kw, depth_in1, depth_deeper, depth_caller, ktrTop]; omega) | ktr_room) (by first | exact units_of hun (by first | exact Nat.le_of_ble_eq_true rfl | exact Nat.le_add_right_of_le (Nat.le_of_ble_eq_true rfl) | omega) | (simp only [units_in1, units_deeper, Around.mark_units, units_caller, ktrTop]; omega) | ((try simp only [units_in1, units_deeper, Around.mark_units, units_caller] at *); (try dsimp only [ktrTop] at *); omega)) ?_)
  case hs => exact fun p hp => .tail _ (.tail _ (.tail _ (.tail _ (List.mem_append.mpr (.inl hp)))))
  refine use3 ?_
  intro h' tk' F' P9 rQ9 nQ9 kQ9
  obtain ⟨er9, en9⟩ := kQ9
  refine eq_rn er9 en9 ?_
  clear er9 en9
  (try clear nQ9)
  (try clear rQ9)
  intro N'
  (try clear P9)
  k_sweep
  cases b with
  | false =>
    k_steps
    exact hE _ _ _ _ _ _ _ _ _ (.inr ⟨rfl, ⟨t', q, hrd9⟩, rfl⟩) (by assumption) (by assumption) (.head _) (fun p hp => .tail _ (.tail _ (.tail _ (.tail _ (.tail _ (List.mem_append.mpr (.inr hp))))))) (by assumption)
  | true =>
    k_steps
    unfold Stop
    refine ListComp_none (by k_asm) (by rfl) (by decide) (by rfl) (by decide) (by rfl) (by rfl) (by decide) ?_
    k_steps
    refine PairsNone.zip (by rfl) (by assumption) (by assumption) (by assumption) (by assumption) hi' (by assumption) (hperm.symm.nodup hnd) (by assumption) (by assumption) (by assumption) (by assumption) (by assumption) (by assumption) ?test ?fin
    case test =>
      rintro C oC m₂ h tk _ _ E' Q' ⟨n1, n2, w1, w2, rfl, rfl, hne12⟩ hC hm1 hm2 F' N' hQ'
      k_steps
      rw [show (n1 == n2) = false from by simpa using hne12]
      exact hQ' _
    case fin =>
      intro D' h' tk' F' N' o1'
      dsimp only
      k_steps
      exact hQ _ (new ++ news) _ _ (by k_asm) (News.subs (by k_asm) fun p hp => .tail _ (.tail _ (.tail _ (.tail _ (.tail _ (.tail _ (.tail _ hp))))))) ⟨t', q, new, hrd9, rfl, hc, rfl, hab.apart.subs fun p hp => .tail _ (.tail _ hp)⟩
end
end Mine

namespace Mine
local macro_rules | `(tactic| omega) => `(tactic| lia)
theorem words_R50 : True := by
  k_with_none
  k_with "exec If" => (k_here; (with_reducible refine wpAny_If ?_); (refine fold_Q1 ?_; intro qk8w))
  k_with "exec Assign" => (k_here; (refine wpAny_Assign_Name ?_); (refine fold_Q1 ?_; intro qk8w))
  k_with "exec Return some" => (k_here; (refine wpAny_Return_some ?_); (refine fold_Q1 ?_; intro qk8w))
  k_with "eval Name" => (k_here; name_kind "globalImplicit"; (fail_if_success (with_reducible show wpAny _ _ (eval _ (compEnvC _ _ _ _)) _ _ _)); k_dflt (first | (name_is_builtin; refine' nameX_B ?Fw9 ?Xw9 ?Tw9 ?ew9 ?vw9 ?nw9 ?_ ?aw9 ?bw9; (case Fw9 => k_asm); (case Xw9 => k_asm); (case Tw9 => k_asm); (case aw9 => rfl); (case bw9 => rfl); (case ew9 => k_is); (case vw9 => boot_fast); (case nw9 => decide); k_whole) | (refine' nameX_K ?Fw9 ?Xw9 ?Tw9 ?ew9 ?_ ?aw9 ?bw9; (case Fw9 => k_asm); (case Xw9 => k_asm); (case Tw9 => k_asm); (case aw9 => rfl); (case bw9 => rfl); (case ew9 => k_is); k_whole)))
  k_with "eval Name" => (k_here; name_kind "local"; (fail_if_success (with_reducible show wpAny _ _ (eval _ (compEnvC _ _ _ _)) _ _ _)); k_dflt (refine' nameX_L ?Fw9 ?vw9 ?_ ?aw9 ?bw9; (case Fw9 => k_asm); (case aw9 => rfl); (case bw9 => rfl); (case vw9 => rfl); k_whole))
  k_with "eval Attribute Name" => (k_here; k_dflt (refine' own_L ?Fw9 ?Xw9 ?vw9 ?Nw9 ?iw9 ?jw9 ?k4w9 ?k5w9 ?k6w9 ?k7w9 ?k8w9 ?k9w9 ?_ ?aw9 ?bw9 ?cw9; (case Fw9 => k_asm); (case Xw9 => k_asm); (case aw9 => rfl); (case bw9 => rfl); (case cw9 => exact rfl); (case vw9 => rfl); (case Nw9 => k_asm); (case iw9 => k_mem); (case jw9 => k_mem); (case k4w9 => k_is); (case k5w9 => k_is); (case k6w9 => k_is); (case k7w9 => k_is); (case k8w9 => k_get); (case k9w9 => k_handed); k_whole))
  k_with "getAttr ref" => (k_here; k_dflt (refine' get_own ?k1w9 ?k2w9 ?k3w9 ?k4w9 ?k5w9 ?k6w9 ?k7w9 ?k8w9 ?k9w9 ?_; (case k1w9 => k_asm); (case k2w9 => k_asm); (case k3w9 => k_inst); (case k4w9 => k_is); (case k5w9 => k_is); (case k6w9 => k_is); (case k7w9 => k_is); (case k8w9 => k_get); (case k9w9 => k_handed); k_whole))
  k_with "ite" => (first | with_reducible refine ite_tt ?_ | with_reducible refine ite_ff ?_ | with_reducible refine ite_True_then ?_)
  k_with "WhlIf" => (first | (refine WhlIf.yes (by (simp only [decide_eq_true_eq]; omega)) ?_) | (refine WhlIf.no (by (simp only [decide_eq_false_iff_not]; omega)) ?_))
  k_with "subscriptTail" => (k_here; (with_reducible show wpAny _ _ (subscriptTail _ (PySem.Expr.Slice _ _ none _) (Value.bytes (List.toArray _) _) (Value.ref _)) _ _ _); (with_reducible rename Fr _ _ _ _ => F'w); (with_reducible rename News _ _ _ _ => N'w); first | (refine bslice_ij (s := ⟨_, _, _, _, _⟩) F'w N'w (by omega) (by omega) (by omega) (by first | with_reducible assumption | exact rfl) ?_; intro h'w t'w k'w F'w N'w; (try k_sweep)) | (refine bslice_j (s := ⟨_, _, _, _, _⟩) F'w N'w (by omega) (by omega) (by first | with_reducible assumption | exact rfl) ?_; intro h'w t'w k'w F'w N'w; (try k_sweep)) | (refine bslice_i (s := ⟨_, _, _, _, _⟩) F'w N'w (by omega) (by omega) (by first | with_reducible assumption | exact rfl) ?_; intro h'w t'w k'w F'w N'w; (try k_sweep)))
  k_with "exec Raise some none" => (k_here; (with_reducible show wpAny _ _ (exec (Stmt.Raise (some (PySem.Expr.Call (PySem.Expr.Name _ _) [_] [] _)) none _) _) _ _ _); k_dflt (refine' Raise_bad ?Fw9 ?Xw9 ?Tw9 ?hw9 ?_ ?ew9 ?kw9 ?xw9; (case Fw9 => k_asm); (case Xw9 => k_asm); (case Tw9 => k_asm); (case hw9 => rfl); (case ew9 => rfl); (case kw9 => rfl); (case xw9 => rfl); k_whole))
  k_with "RaiseB" => (k_dflt (refine' raise_here ?Bw9 ?Fw9 ?Xw9 ?Nw9 ?Tw9 ?kw9 ?dw9 ?_; (case Bw9 => k_asm); (case Fw9 => k_asm); (case Xw9 => k_asm); (case Nw9 => k_asm); (case Tw9 => k_asm); (case kw9 => rfl); (case dw9 => ktr_room)); intro e9w dd9w tk9w k9w h9w R9w U9w)
  k_with "leaving ref" => (k_here; (refine' raise_next ?Kw9 ?Fw9 ?Rw9 ?Uw9 ?_; (case Rw9 => assumption); (case Kw9 => assumption); (case Uw9 => assumption); (case Fw9 => assumption)); intro h9w R9w U9w)
  k_with "compareOp NotIn bytes ref" => (k_here; k_dflt (refine' notin_signs ?Nw9 ?tw9 ?iw9 ?_; (case Nw9 => k_asm); (case tw9 => k_mem); (case iw9 => first | assumption | exact .cons .nil | exact .cons (.cons .nil) | exact .cons (.cons (.cons .nil))); k_whole))
  k_with "call ref" => (k_here; (with_reducible show wpAny _ _ (call (Value.ref _) _ _) _ _ _); (fail_if_success (with_reducible show wpAny _ _ (call (Value.ref 78) _ _) _ _ _)); (fail_if_success (with_reducible show wpAny _ _ (call (Value.ref 175) _ _) _ _ _)); refine stop_of ?_)
  k_with "UnrEnd" => (k_here; (refine' unr_keep ?Fw9 ?Nw9 ?ow9 ?_; (case Fw9 => assumption); (case Nw9 => k_asm); (case ow9 => exact fun p hp => Nat.ne_of_lt ((by assumption : ∀ p ∈ _, p.1 < _) p hp)); k_whole))
  k_with "exec While BoolOp" => (k_here; k_dflt (refine whl_start 100 ?_))
  k_with "execs cons" => (k_here; (try k_gentoks); (try (refine fold_Q ?_; intro qk9w ek9w)); (with_reducible refine wpAny_execs_cons ?_); (try dsimp only))
  k_with "storeName" => (k_here; k_dflt (refine' storeX_M ?Fw9 ?Nw9 ?_ ?aw9 ?bw9; (case Fw9 => k_asm); (case Nw9 => k_asm); (case aw9 => rfl); (case bw9 => rfl); k_whole; intro m9w h'w t9w F'w N'w; (try k_sweep); (try dsimp only)))
  k_with "storeName" => (k_here; (first | with_reducible refine tok_intA ?_ | with_reducible refine tok_intS ?_ | with_reducible refine tok_bytA ?_ | with_reducible refine tok_bytS ?_); intro t9w)
  k_with "call builtin:list.append" => (k_here; (first | with_reducible refine tok_appA ?_ | with_reducible refine tok_appS ?_); intro t9w)
  k_with "call ref" => (k_here; (with_reducible show wpAny _ _ (call (Value.ref 78) _ _) _ _ _); refine stop_of ?_)
  k_with "callWith ref" => (k_here; (with_reducible show wpAny _ _ (callWith _ (Value.ref _) _ (backTo _ (starEach [] _)) []) _ _ _); k_dflt (refine' callWith_K0 ?k1w9 ?k2w9 ?_; (case k1w9 => k_in); (case k2w9 => k_is); k_whole))
  k_with "exec While Name" => (k_here; refine stop_of ?_)
  k_with "subscriptTail" => (k_here; (with_reducible show wpAny _ _ (subscriptTail _ _ (Value.ref _) (Value.str _ _)) _ _ _); k_dflt (refine kda_item (knd := PySem.strKind _ _) (by k_asm) (by k_mem) (by assumption) (strKind_is _ _ _ _) (by rfl) ?_))
  k_with "setItem ref str" => (k_here; k_dflt (refine' kda_set (knd := PySem.strKind _ _) ?Fw9 ?Nw9 ?Uw9 ?dw9 (strKind_is _ _ _ _) ?zw9 ?_; (case Fw9 => k_asm); (case Nw9 => k_asm); (case Uw9 => k_updF); (case dw9 => assumption); (case zw9 => rw [sizeLine_eq]; exact Nat.le_of_ble_eq_true (by with_unfolding_all rfl))); intro h'w o'w F'w N'w hd'w; (try dsimp only at N'w))
  k_with "call builtin:len" => (k_here; k_dflt (refine i_len (by k_asm) (by k_mem) (by assumption) (by omega) ?_))
  k_with "exec For Name Name cons nil" => (k_here; (rename Fr _ _ _ _ => lF'w); (with_unfolding_all refine' For_invVF lF'w ?k1w9 ?k2w9 ?_; (case k1w9 => exact rfl); (case k2w9 => exact rfl); k_whole))
  trivial
section
variable {w : World} {mean : ExcName → Option Value} {mg mb : Str → Option Value}
theorem fold_goal {P : Prop} (k : let g := P; g) : P := k
section
variable {A₀ : Around} {E : Value → Shared → Prop} {s' : Shared} {base G g : Heap} {outer : List Env} {L a e dd : Addr} {m : Str → Option Value} {name : Str} {scope : Scope} {cd : Value} {news : Led} {Q : Flow → Shared → Prop}
  {b₀ : Stmt} {suite : List Stmt} {pos np : Pos} {rest : List ExceptHandler} {n : Str}
theorem caught_bad (R : Raised dd base G (envOf name scope L a cd :: outer) e news s'.heap) (F : Fr g L G m) (K : Below A₀ base outer g) (hsm : G.UpToSlots s'.heap) (XB : (hd.heap_1 w.params).In base) (TB : Top vw LO mean mg mb base)
    (k : ∀ h' g' tk oe vs, KtsTurn (outer.filterMap (·.frame)) g g' → Fr g' L h' (fun y => if y = n then some (.ref e) else m y) → News g' L h' ((e, oe) :: news) → oe.cls = .ref 45 → oe.dict = some dd → oe.data = .fields vs → Below A₀ base outer g' → (hd.heap_1 w.params).In g' → Top vw LO mean mg mb g' →
      wpAny (model PR w) ((A₀.deeper (envOf name scope L a cd)).mark (some (.ref e))) (execs (b₀ :: suite) (envOf name scope L a cd))
        (fun f s₄ => wpAny (model PR w) (A₀.deeper (envOf name scope L a cd)) (do bindName (envOf name scope L a cd) n .none; unbindBehindTheSuite (envOf name scope L a cd) n pos) (fun _ s₅ => Q f s₅) E s₄)
        (AsSuiteRaised (model PR w) ((A₀.deeper (envOf name scope L a cd)).mark (some (.ref e))) (envOf name scope L a cd) n pos (notedBy (model PR w) ((A₀.deeper (envOf name scope L a cd)).mark (some (.ref e))) (envOf name scope L a cd) (cameBackBy (model PR w) (A₀.deeper (envOf name scope L a cd)) (envOf name scope L a cd) E)))
        { s' with heap := h', toks := tk })
    (hk : scope.kind = .function := by rfl) (hlo : (envOf name scope L a cd).kindOf n = some .local := by rfl) (hx : (envOf name scope L a cd).kindOf (Str.ofString "BadLayout") = some .globalImplicit := by rfl) :
    wpAny (model PR w) (A₀.deeper (envOf name scope L a cd)) (noteFrame (.ref e) (envOf name scope L a cd))
      (fun _ s₂ => wpAny (model PR w) (A₀.deeper (envOf name scope L a cd)) (setFlight (.ref e) none) (fun _ s₃ =>
        wpAny (model PR w) (A₀.deeper (envOf name scope L a cd)) (handleBy (.ref e) (envOf name scope L a cd) (.ExceptHandler (some (.Name (Str.ofString "BadLayout") np)) (some n) (b₀ :: suite) pos :: rest)) Q E s₃) E s₂) E s' := by
  refine fold_goal ?_
  intro G9
  obtain ⟨B, hB, hBG, hl, hfl⟩ := R
  have hL : B.get? L = none := (hfl.2.1.mem (b := L) (List.mem_filterMap.mpr ⟨_, .head _, rfl⟩)).1
  refine note_next (Around.frames_deeper K.stack) rfl hfl fun h₄ hfl₄ hsm₄ => ?_
  refine flight_none hfl₄ fun h₅ hfl₅ hsm₅' => ?_
  have hsm₅ := hsm₄.trans hsm₅'
  refine fold_goal ?_
  intro G9
  obtain ⟨g₅, T₅, F₅, K₅⟩ := kts_ground K F hBG hfl₅.1 (hsm.trans hsm₅)
  have X₅ : (hd.heap_1 w.params).In g₅ := XB.keeps K₅.stays
  have P₅ : TopRead vw LO mg mb g₅ := topRead_of (TB.keeps K₅.stays)
  obtain ⟨oe₅, vs₅, -, -, -, he₅, hP₅, -⟩ := hfl₅.2.2.2
  have hC₅ := F₅.keep _ _ (at45 X₅)
  refine wpAny_handleBy_cons (codeAny_handlers_test (name_K F₅ X₅ P₅ (v := .ref 45) (by k_is) ?_ hk hx (by decide))) (by intro q; cases q)
  refine wpAny_excMatches_sub_self hC₅ he₅ hP₅.1 (by decide) (codeAny_handlers_suite_as ?_)
  refine flight_none hfl₅ fun h₆ hfl₆ hsm₆ => ?_
  refine fold_goal ?_
  intro G9
  obtain ⟨g₆, T₆, F₆, K₆⟩ := kts_ground K F hBG hfl₆.1 ((hsm.trans hsm₅).trans hsm₆)
  have hfl₆' := hfl₆
  obtain ⟨hst₆, hff₆, hen₆, oe, vs, T, oT, ts, hoe, ⟨hoec, hoedi⟩, hoed, -⟩ := hfl₆'
  have ne₆ : g₆.get? e = none := T₆.none_ _ (kts_fresh F hBG hen₆ fun o ho m => by
    obtain ⟨_, o', ho', hd⟩ := K.frames.mem m
    rw [ho] at ho'
    cases ho'
    obtain ⟨sl, hs⟩ := ((hsm.trans hsm₅).trans hsm₆) _ _ (F.keep _ _ ho) hd
    rw [hoe] at hs
    cases hs
    exact hd _ hoed)
  have N₆ := News.more F₆ News.nil hoe (fun es n q => by rw [hoed] at q; cases q) ne₆
  have Nl : News g₆ L h₆ news := fun q hq => ⟨hst₆ _ _ (hl q hq).1, (fun z => by have := (hl q hq).1; rw [z, hL] at this; cases this), T₆.none_ _ (kts_none F.keep (hl q hq).2.1)⟩
  have X₆ : (hd.heap_1 w.params).In g₆ := XB.keeps K₆.stays
  have P₆ : Top vw LO mean mg mb g₆ := TB.keeps K₆.stays
  refine stN F₆ (news := (e, oe) :: news) (fun q hq => (List.mem_cons.mp hq).elim (fun z => z ▸ N₆ _ (.head _)) (Nl q)) (fun h₇ F₇ N₇ => ?_) hk hlo
  exact k h₇ g₆ _ oe vs T₆ F₇ N₇ hoec hoedi hoed K₆ X₆ P₆
end
/-- CT for a caller that stands at the bottom -/
def CT0 (w : World) (mean : ExcName → Option Value) (mg mb : Str → Option Value) (f : Addr) (args : List Value) (lim : Nat) (news : Led) (K : Value → Led → Prop) : Prop :=
  ∀ (dp un : Nat) (gd : Option (List Code)) (cn : Str) (cs : Scope) (a : Addr) (ccd : Value) (A₀ : Around) (base h₀ : Heap) (L : Addr) (m : Str → Option Value) (s : Shared) (Q E : Value → Shared → Prop),
    Below A₀ base [] h₀ → Fr h₀ L s.heap m → (hd.heap_1 w.params).In h₀ → News h₀ L s.heap news → Top vw LO mean mg mb h₀ → cs.kind = .function → dp + lim ≤ 900 → un + 10 * lim ≤ 9000 →
    (∀ r news' h' tk', Fr h₀ L h' m → News h₀ L h' news' → K r news' → Q r { s with heap := h', toks := tk' }) →
    wpAny (model PR w) (ktrTop dp un gd cn cs L a ccd [] []) (call (.ref f) args) Q E s
theorem c_refused (o : List UInt8) (t : Tok) (news : Led) (K : Value → Led → Prop) (KR : Int → Prop) (C : CTR w mean mg mb 184 [.bytes o.toArray t] 560 news K KR news) (hK : ∀ r n', K r n' → ∀ p ∈ news, p ∈ n') :
   CT0 w mean mg mb 235 [.bytes o.toArray t] 590 news (fun r n' => ((r = .none ∧ ∃ r0 n0, K r0 n0) ∨ ∃ n u, r = .int n u ∧ KR n) ∧ n' = news) := by
  intro dp un gd cn cs a ccd A₀ base₀ h₀ L m s Q E B₀ F X N T hk hdp hun hQ
  have B : Below A₀ h₀ [] h₀ := ⟨B₀.stack, fun _ _ e => e, B₀.frames.of_keeps fun b o e _ => ⟨o, e, rfl⟩⟩
  refine wpAny_call ?_
  k_dflt (refine' code_defS0 ?k1 ?k2 ?k3 ?k4 ?k5 ?kA ?k6 ?k7 ?k8 ?k9 ?kB ?_ ?cK ?c2 ?c3 ?c4 ?c5; (case kA => exact rfl); (case k2 => k_asm); (case k1 => exact B); (case k3 => exact X); (case k4 => k_asm); (case k5 => k_asm); (case k6 => k_is); (case k7 => k_is); (case k8 => ktr_room); (case k9 => exact BindsTo.of_eq rfl); (case kB => exact locs rfl); (case cK => exact hk); (case c2 => exact rfl); (case c3 => exact rfl); (case c4 => exact rfl); (case c5 => decide); k_whole; intro g' L' h' FG' F' N' B' X' T' D'; (try dsimp only); (try k_fold))
  k_steps
  unfold Stop
  (try (refine fold_Q ?_; intro qk9 ek9)); k_dflt (refine CTR.use (C) (by k_asm) (by k_asm) (by k_asm) (by k_asm) (by k_asm) (by first | assumption | exact rfl) (by first | exact room_of hdp (by first | exact Nat.le_of_ble_eq_true rfl | exact Nat.le_add_right_of_le (Nat.le_of_ble_eq_true rfl) | omega) | (simp only [depth_under_make, depth_under_kw, depth_in1, depth_deeper, depth_caller, ktrTop]; omega) | ktr_room) (by first | exact units_of hun (by first | exact Nat.le_of_ble_eq_true rfl | exact Nat.le_add_right_of_le (Nat.le_of_ble_eq_true rfl) | omega) | (simp only [units_in1, units_deeper, Around.mark_units, units_caller, ktrTop]; omega) | ((try simp only [units_in1, units_deeper, Around.mark_units, units_caller] at *); (try dsimp only [ktrTop] at *); omega)) ?_ ?_)
  · rintro r9 n9 h' tk' F' N' hk9
    replace N' := News.subs N' (hK r9 n9 hk9)
    k_sweep
    k_steps
    exact hQ _ _ _ _ (by k_asm) (by k_asm) ⟨.inl ⟨rfl, _, _, hk9⟩, rfl⟩
  · rintro e9 dd9 gg9 tk9 n9 u9 nr9 h9 k9 hk9 F9 R9 m9 s9 U9
    k_steps
    refine caught_bad R9 F9 B' U9 X T ?_ rfl rfl rfl
    rintro h' g5 tk5 oe vs T5 F' N' hc5 hd5 hf5 B5 X5 P5
    replace N' := News.subs N' (news' := (e9, oe) :: (dd9, toldD w tk9 (.int n9 u9)) :: news) (fun p hp => by
      rcases List.mem_cons.mp hp with rfl | hp
      · exact .head _
      rcases List.mem_cons.mp hp with rfl | hp
      · exact .tail _ m9
      · exact .tail _ (s9 _ hp))
    clear F9 U9 R9 FG'
    k_steps
    refine get_told (X5.keeps F'.keep) (N' _ (.head _)).1 hc5 hd5 hf5 (N' _ (.tail _ (.head _))).1 ?_
    k_steps
    exact hQ _ _ _ _ (by k_asm) (News.subs (by k_asm) (fun p hp => .tail _ (.tail _ hp))) ⟨.inr ⟨_, _, rfl, hk9⟩, rfl⟩
end
end Mine

theorem Mine.pk_3_20 {h₀ h : Heap} {L : Addr} {a0 a1 a2 : Addr × Obj} {rest : List (Addr × Obj)} (N : News h₀ L h (a0 :: a1 :: a2 :: rest)) : News h₀ L h (a2 :: a0 :: rest) := by
  intro p hp
  refine N p ?_
  simp only [List.mem_cons] at hp ⊢
  grind only
namespace Mine
local macro_rules | `(tactic| omega) => `(tactic| lia)
theorem words_R60 : True := by
  k_with_none
  k_with "exec If" => (k_here; (with_reducible refine wpAny_If ?_); (refine fold_Q1 ?_; intro qk8w))
  k_with "exec Assign" => (k_here; (refine wpAny_Assign_Name ?_); (refine fold_Q1 ?_; intro qk8w))
  k_with "exec Return some" => (k_here; (refine wpAny_Return_some ?_); (refine fold_Q1 ?_; intro qk8w))
  k_with "eval Name" => (k_here; name_kind "globalImplicit"; (fail_if_success (with_reducible show wpAny _ _ (eval _ (compEnvC _ _ _ _)) _ _ _)); k_dflt (first | (name_is_builtin; refine' nameX_B ?Fw9 ?Xw9 ?Tw9 ?ew9 ?vw9 ?nw9 ?_ ?aw9 ?bw9; (case Fw9 => k_asm); (case Xw9 => k_asm); (case Tw9 => k_asm); (case aw9 => rfl); (case bw9 => rfl); (case ew9 => k_is); (case vw9 => boot_fast); (case nw9 => decide); k_whole) | (refine' nameX_K ?Fw9 ?Xw9 ?Tw9 ?ew9 ?_ ?aw9 ?bw9; (case Fw9 => k_asm); (case Xw9 => k_asm); (case Tw9 => k_asm); (case aw9 => rfl); (case bw9 => rfl); (case ew9 => k_is); k_whole)))
  k_with "eval Name" => (k_here; name_kind "local"; (fail_if_success (with_reducible show wpAny _ _ (eval _ (compEnvC _ _ _ _)) _ _ _)); k_dflt (refine' nameX_L ?Fw9 ?vw9 ?_ ?aw9 ?bw9; (case Fw9 => k_asm); (case aw9 => rfl); (case bw9 => rfl); (case vw9 => rfl); k_whole))
  k_with "eval Attribute Name" => (k_here; k_dflt (refine' own_L ?Fw9 ?Xw9 ?vw9 ?Nw9 ?iw9 ?jw9 ?k4w9 ?k5w9 ?k6w9 ?k7w9 ?k8w9 ?k9w9 ?_ ?aw9 ?bw9 ?cw9; (case Fw9 => k_asm); (case Xw9 => k_asm); (case aw9 => rfl); (case bw9 => rfl); (case cw9 => exact rfl); (case vw9 => rfl); (case Nw9 => k_asm); (case iw9 => k_mem); (case jw9 => k_mem); (case k4w9 => k_is); (case k5w9 => k_is); (case k6w9 => k_is); (case k7w9 => k_is); (case k8w9 => k_get); (case k9w9 => k_handed); k_whole))
  k_with "getAttr ref" => (k_here; k_dflt (refine' get_own ?k1w9 ?k2w9 ?k3w9 ?k4w9 ?k5w9 ?k6w9 ?k7w9 ?k8w9 ?k9w9 ?_; (case k1w9 => k_asm); (case k2w9 => k_asm); (case k3w9 => k_inst); (case k4w9 => k_is); (case k5w9 => k_is); (case k6w9 => k_is); (case k7w9 => k_is); (case k8w9 => k_get); (case k9w9 => k_handed); k_whole))
  k_with "ite" => (first | with_reducible refine ite_tt ?_ | with_reducible refine ite_ff ?_ | with_reducible refine ite_True_then ?_)
  k_with "WhlIf" => (first | (refine WhlIf.yes (by (simp only [decide_eq_true_eq]; omega)) ?_) | (refine WhlIf.no (by (simp only [decide_eq_false_iff_not]; omega)) ?_))
  k_with "subscriptTail" => (k_here; (with_reducible show wpAny _ _ (subscriptTail _ (PySem.Expr.Slice _ _ none _) (Value.bytes (List.toArray _) _) (Value.ref _)) _ _ _); (with_reducible rename Fr _ _ _ _ => F'w); (with_reducible rename News _ _ _ _ => N'w); first | (refine bslice_ij (s := ⟨_, _, _, _, _⟩) F'w N'w (by omega) (by omega) (by omega) (by first | with_reducible assumption | exact rfl) ?_; intro h'w t'w k'w F'w N'w; (try k_sweep)) | (refine bslice_j (s := ⟨_, _, _, _, _⟩) F'w N'w (by omega) (by omega) (by first | with_reducible assumption | exact rfl) ?_; intro h'w t'w k'w F'w N'w; (try k_sweep)) | (refine bslice_i (s := ⟨_, _, _, _, _⟩) F'w N'w (by omega) (by omega) (by first | with_reducible assumption | exact rfl) ?_; intro h'w t'w k'w F'w N'w; (try k_sweep)))
  k_with "exec Raise some none" => (k_here; (with_reducible show wpAny _ _ (exec (Stmt.Raise (some (PySem.Expr.Call (PySem.Expr.Name _ _) [_] [] _)) none _) _) _ _ _); k_dflt (refine' Raise_bad ?Fw9 ?Xw9 ?Tw9 ?hw9 ?_ ?ew9 ?kw9 ?xw9; (case Fw9 => k_asm); (case Xw9 => k_asm); (case Tw9 => k_asm); (case hw9 => rfl); (case ew9 => rfl); (case kw9 => rfl); (case xw9 => rfl); k_whole))
  k_with "RaiseB" => (k_dflt (refine' raise_here ?Bw9 ?Fw9 ?Xw9 ?Nw9 ?Tw9 ?kw9 ?dw9 ?_; (case Bw9 => k_asm); (case Fw9 => k_asm); (case Xw9 => k_asm); (case Nw9 => k_asm); (case Tw9 => k_asm); (case kw9 => rfl); (case dw9 => ktr_room)); intro e9w dd9w tk9w k9w h9w R9w U9w)
  k_with "leaving ref" => (k_here; (refine' raise_next ?Kw9 ?Fw9 ?Rw9 ?Uw9 ?_; (case Rw9 => assumption); (case Kw9 => assumption); (case Uw9 => assumption); (case Fw9 => assumption)); intro h9w R9w U9w)
  k_with "compareOp NotIn bytes ref" => (k_here; k_dflt (refine' notin_signs ?Nw9 ?tw9 ?iw9 ?_; (case Nw9 => k_asm); (case tw9 => k_mem); (case iw9 => first | assumption | exact .cons .nil | exact .cons (.cons .nil) | exact .cons (.cons (.cons .nil))); k_whole))
  k_with "call ref" => (k_here; (with_reducible show wpAny _ _ (call (Value.ref _) _ _) _ _ _); (fail_if_success (with_reducible show wpAny _ _ (call (Value.ref 78) _ _) _ _ _)); (fail_if_success (with_reducible show wpAny _ _ (call (Value.ref 175) _ _) _ _ _)); refine stop_of ?_)
  k_with "UnrEnd" => (k_here; (refine' unr_keep ?Fw9 ?Nw9 ?ow9 ?_; (case Fw9 => assumption); (case Nw9 => k_asm); (case ow9 => exact fun p hp => Nat.ne_of_lt ((by assumption : ∀ p ∈ _, p.1 < _) p hp)); k_whole))
  k_with "exec While BoolOp" => (k_here; k_dflt (refine whl_start 100 ?_))
  k_with "execs cons" => (k_here; (try k_gentoks); (try (refine fold_Q ?_; intro qk9w ek9w)); (with_reducible refine wpAny_execs_cons ?_); (try dsimp only))
  k_with "storeName" => (k_here; k_dflt (refine' storeX_M ?Fw9 ?Nw9 ?_ ?aw9 ?bw9; (case Fw9 => k_asm); (case Nw9 => k_asm); (case aw9 => rfl); (case bw9 => rfl); k_whole; intro m9w h'w t9w F'w N'w; (try k_sweep); (try dsimp only)))
  k_with "storeName" => (k_here; (first | with_reducible refine tok_intA ?_ | with_reducible refine tok_intS ?_ | with_reducible refine tok_bytA ?_ | with_reducible refine tok_bytS ?_); intro t9w)
  k_with "call builtin:list.append" => (k_here; (first | with_reducible refine tok_appA ?_ | with_reducible refine tok_appS ?_); intro t9w)
  k_with "call ref" => (k_here; (with_reducible show wpAny _ _ (call (Value.ref 78) _ _) _ _ _); refine stop_of ?_)
  k_with "callWith ref" => (k_here; (with_reducible show wpAny _ _ (callWith _ (Value.ref _) _ (backTo _ (starEach [] _)) []) _ _ _); k_dflt (refine' callWith_K0 ?k1w9 ?k2w9 ?_; (case k1w9 => k_in); (case k2w9 => k_is); k_whole))
  k_with "exec While Name" => (k_here; refine stop_of ?_)
  k_with "subscriptTail" => (k_here; (with_reducible show wpAny _ _ (subscriptTail _ _ (Value.ref _) (Value.str _ _)) _ _ _); k_dflt (refine kda_item (knd := PySem.strKind _ _) (by k_asm) (by k_mem) (by assumption) (strKind_is _ _ _ _) (by rfl) ?_))
  k_with "setItem ref str" => (k_here; k_dflt (refine' kda_set (knd := PySem.strKind _ _) ?Fw9 ?Nw9 ?Uw9 ?dw9 (strKind_is _ _ _ _) ?zw9 ?_; (case Fw9 => k_asm); (case Nw9 => k_asm); (case Uw9 => k_updF); (case dw9 => assumption); (case zw9 => rw [sizeLine_eq]; exact Nat.le_of_ble_eq_true (by with_unfolding_all rfl))); intro h'w o'w F'w N'w hd'w; (try dsimp only at N'w))
  k_with "call builtin:len" => (k_here; k_dflt (refine i_len (by k_asm) (by k_mem) (by assumption) (by omega) ?_))
  k_with "exec For Name Name cons nil" => (k_here; (rename Fr _ _ _ _ => lF'w); (with_unfolding_all refine' For_invVF lF'w ?k1w9 ?k2w9 ?_; (case k1w9 => exact rfl); (case k2w9 => exact rfl); k_whole))
  k_with "eval ListComp" => (k_here; k_dflt (refine LCg.ListComp_U (F₀ := by k_asm) (by rfl) (by decide) (by rfl) (by decide) (by rfl) ?_))
  k_with "CompSrc" => (k_here; refine stop_of ?_)
  trivial
section
variable {w : World} {mean : ExcName → Option Value} {mg mb : Str → Option Value}
theorem ints_len {vs : List Value} {ns : List Int} (h : IntsAre vs ns) : vs.length = ns.length := by
  induction h with
  | nil => rfl
  | cons _ _ _ ih => simp [ih]
theorem offAll {D : Addr} : ∀ {l : Led}, LCg.Off1 D l → ∀ p ∈ l, p.1 ≠ D
  | [], _, _, h => nomatch h
  | _ :: _, x, p, h => by
    rcases List.mem_cons.mp h with rfl | h
    · exact x.1
    · exact offAll x.2 p h
theorem c_deck (a0 : Addr) (ws : List Value) (ns : List Int) (k0 : Nat) (news : Led) (hm : (a0, W.listOf ws.toArray k0) ∈ news) (hi : IntsAre ws ns) (hz : ns.length ≤ 24) :
   CT w mean mg mb 189 [.ref a0] 20 news (fun r n' => ∃ d l D vs k, r = .ref d ∧ n' = (d, D) :: (l, W.listOf vs.toArray k) :: news ∧ IsDeck w D l 0 ∧ IntsAre vs (ns.map fun n => n.fmod 1000000007) ∧ (∀ p ∈ (l, W.listOf vs.toArray k) :: news, p.1 ≠ d) ∧ ∀ p ∈ news, p.1 ≠ l) := by
  intro dp un gd cn cs a0 ccd cl0 outer A₀ base0 h₀ L m s Q E B F X N T hk hdp hun hQ
  refine wpAny_call ?_
  k_dflt ktr_enter
  rename Fr _ _ _ _ => lF9
  refine fold_m lF9 ?_
  clear lF9
  intro m9 lF9
  k_steps
  have e60 : List.take 60 ns = ns := List.take_of_length_le (by omega)
  rename IntsAre _ (List.take 60 ns) => hw2
  rw [e60] at hw2
  unfold Stop
  have hzw := ints_len hw2
  refine LCg.CompSrc.ledger (by rfl) (by k_asm) (by k_asm) (.head _) ?sz ?_
  case sz => rw [sizeLine_eq, List.size_toArray, hzw]; omega
  intro g'
  refine compInts (ns := ns.map fun n => n.fmod 1000000007) ?hS ?hE ?hF _ 0 [] (by simp [hzw]) .nil
  case hS => exact .inr ⟨_, .head _, rfl, _, rfl⟩
  case hE =>
    intro i v I oI C oC D ys m₂ h tk E' Q' hv hC hx2 F' N' hQ'
    obtain ⟨n, u, rfl, hn⟩ := ints_get hw2 (by simpa using hv)
    k_steps
    exact hQ' _ _ _ (by simp [hn])
  case hF =>
    intro ys hys D' h' tk' F' N' o1'
    dsimp only
    obtain ⟨hne1, hne2, o2'⟩ := o1'
    k_steps
    refine hQ _ ((_, _) :: (_, _) :: news) _ _ (by k_asm) (pk_3_20 (by k_asm)) ⟨_, _, _, ys, _, rfl, rfl, ⟨_, by assumption⟩, hys, ?_, ?_⟩
    · intro p hp
      rcases List.mem_cons.mp hp with rfl | hp
      · exact Ne.symm hne2
      · exact Nat.ne_of_lt ((by assumption : ∀ p ∈ news, p.1 < _) p hp)
    · exact offAll o2'
end
end Mine

namespace Mine
local macro_rules | `(tactic| omega) => `(tactic| lia)
theorem words_PQ : True := by
  k_with_none
  trivial
def lB : Nat → Nat
  | 0 => 1
  | d + 1 => 1 + 3 * lB d
def fB : Nat → Nat
  | 0 => 1
  | d + 1 => 4 + 3 * fB d
def dB : Nat → Nat
  | 0 => 0
  | d + 1 => 1 + 3 * dB d
theorem lB_pos : ∀ d, 1 ≤ lB d
  | 0 => Nat.le_refl 1
  | d + 1 => by simp only [lB]; omega
theorem fB_pos : ∀ d, 1 ≤ fB d
  | 0 => Nat.le_refl 1
  | d + 1 => by simp only [fB]; omega
theorem Tr.bds {d : Nat} {row : Bool} {w h x y n k : Int} {t : T} (H : Tr d row w h x y n t k) : t.leafs ≤ lB d ∧ t.fuel ≤ fB d ∧ t.dep ≤ dB d := by
  induction H with
  | @pane d => exact ⟨lB_pos d, fB_pos d, Nat.zero_le _⟩
  | row2 _ _ _ _ _ i1 i2 => simp only [T.leafs, T.fuel, T.dep, lB, fB, dB]; omega
  | row3 _ _ _ _ _ _ _ i1 i2 i3 => simp only [T.leafs, T.fuel, T.dep, lB, fB, dB]; omega
  | col2 _ _ _ _ _ i1 i2 => simp only [T.leafs, T.fuel, T.dep, lB, fB, dB]; omega
  | col3 _ _ _ _ _ _ _ i1 i2 i3 => simp only [T.leafs, T.fuel, T.dep, lB, fB, dB]; omega
theorem up_app {a b : List Int} {n m k : Int} (h1 : a.Nodup ∧ ∀ p ∈ a, n < p ∧ p ≤ m) (h2 : b.Nodup ∧ ∀ p ∈ b, m < p ∧ p ≤ k) (l1 : n ≤ m) (l2 : m ≤ k) : (a ++ b).Nodup ∧ ∀ p ∈ a ++ b, n < p ∧ p ≤ k := by
  refine ⟨List.nodup_append.mpr ⟨h1.1, h2.1, fun x hx y hy e => ?_⟩, fun p hp => ?_⟩
  · have := (h1.2 x hx).2
    have := (h2.2 y hy).1
    omega
  · rcases List.mem_append.mp hp with hp | hp
    · have := h1.2 p hp; omega
    · have := h2.2 p hp; omega
theorem Tr.panes {d : Nat} {row : Bool} {w h x y n k : Int} {t : T} (H : Tr d row w h x y n t k) : t.panes.Nodup ∧ ∀ p ∈ t.panes, n < p ∧ p ≤ k := by
  induction H with
  | pane _ _ h1 h2 => exact ⟨by simp [T.panes], fun p hp => by rw [List.mem_singleton.mp hp]; exact ⟨h1, Int.le_refl _⟩⟩
  | row2 _ _ _ H1 H2 i1 i2 => exact up_app i1 i2 (Int.le_of_lt H1.le.1) (Int.le_of_lt H2.le.1)
  | row3 _ _ _ _ H1 H2 H3 i1 i2 i3 =>
    have := H1.le.1; have := H2.le.1
    exact up_app (up_app i1 i2 (Int.le_of_lt H1.le.1) (Int.le_of_lt H2.le.1)) i3 (by omega) (Int.le_of_lt H3.le.1)
  | col2 _ _ _ H1 H2 i1 i2 => exact up_app i1 i2 (Int.le_of_lt H1.le.1) (Int.le_of_lt H2.le.1)
  | col3 _ _ _ _ H1 H2 H3 i1 i2 i3 =>
    have := H1.le.1; have := H2.le.1
    exact up_app (up_app i1 i2 (Int.le_of_lt H1.le.1) (Int.le_of_lt H2.le.1)) i3 (by omega) (Int.le_of_lt H3.le.1)
theorem rd_text (t : T) (hn : t.Nums) (hf : t.fuel ≤ 25) : rd (text t.body) = .ok t (text t.body).length ∧ pcell (text t.body) 25 5 ≠ .out := by
  obtain ⟨a, b⟩ := pcell_ok t (text t.body) [] 25 5 hn hf (by rw [text_drop, List.append_nil]) NoDig.nil
  refine ⟨?_, by rw [a]; exact fun h => nomatch h⟩
  unfold rd
  rw [a, ok_bind, text_len, if_neg (by omega)]
  congr 1
  omega
/-- what read_layout refuses at its head, or its reader -/
def Bad (o : List UInt8) : Prop := HeadOk o → ∃ k, rd o = .bad k
theorem rd_more (t : T) (hn : t.Nums) (hf : t.fuel ≤ 25) : Bad (text t.body ++ [44]) := by
  rintro -
  obtain ⟨a, b⟩ := pcell_ok t (text t.body ++ [44]) [44] 25 5 hn hf (by
    rw [List.drop_append_of_le_length (by rw [text_len]; omega), text_drop]) (NoDig.cons (by decide))
  unfold rd
  rw [a, ok_bind, List.length_append, text_len, if_pos (by simp only [List.length_cons, List.length_nil]; omega)]
  exact ⟨_, rfl⟩
theorem rd_of_bad {o : List UInt8} (h : ∃ k, pcell o 25 5 = .bad k) : ∃ k, rd o = .bad k := by
  obtain ⟨k, h⟩ := h
  exact ⟨k, by unfold rd; rw [h]; rfl⟩
/-- a lone pane with a number of one figure, cut -/
theorem pane_cut {w h x y n : Int} {o u : List UInt8} {f p : Nat} (hn : (T.pane w h x y n).Nums) (h1 : n < 10) (H : o.drop p = u) (hu : u <+: (T.pane w h x y n).body) (hne : u ≠ (T.pane w h x y n).body) : ∃ k, pcell o (f + 1) p = .bad k := by
  obtain ⟨hw, hh, hx, hy, hk⟩ := hn
  have eb : (T.pane w h x y n).body = hdT w h x y ++ 44 :: dec n := by
    simp only [T.body, List.append_assoc, List.cons_append, List.nil_append]
  rw [eb] at hu hne
  rcases phead_cut hw hh hx hy (.inl rfl) H hu with ⟨u1, hu1, e1, a1, H1⟩ | ⟨k, s⟩
  · have e0 : u1 = [] := by
      have hd : (dec n).length = 1 := by unfold dec; rw [if_pos h1]; rfl
      have hl := hu1.length_le
      cases u1 with
      | nil => rfl
      | cons c r =>
        refine absurd ?_ hne
        have : (c :: r) = dec n := hu1.eq_of_length (by simp only [List.length_cons] at hl ⊢; omega)
        rw [e1, this]
    rw [e0] at H1
    have e9 : pcell o (f + 1) p = (pnum o (p + (hdT w h x y).length + 1)).bind fun k q => .ok (.pane w h x y k) q := by
      rw [pcell, a1, ok_bind]
      simp only [if_true]
    rw [pnum_end H1] at e9
    exact ⟨_, e9⟩
  · exact ⟨k, by rw [pcell, s]; rfl⟩
theorem rd_cut (t : T) (hn : t.Nums) (hf : t.fuel ≤ 25) (h1 : ∀ w h x y n, t = .pane w h x y n → n < 10) (k : Nat) (hk : k < (text t.body).length) : Bad ((text t.body).take k) := by
  rintro ⟨h4, -⟩
  rw [text_len] at hk
  have hk5 : 5 ≤ k := by
    have := (List.getElem?_eq_some_iff.mp h4).1
    rw [List.length_take] at this
    omega
  obtain ⟨j, rfl⟩ : ∃ j, k = 5 + j := ⟨k - 5, by omega⟩
  have e : ((text t.body).take (5 + j)).drop 5 = t.body.take j := by
    rw [List.drop_take, text_drop, show 5 + j - 5 = j by omega]
  have hp : t.body.take j <+: t.body := List.take_prefix _ _
  have hne : t.body.take j ≠ t.body := fun e => by
    have := congrArg List.length e
    rw [List.length_take] at this
    omega
  refine rd_of_bad ?_
  cases t with
  | pane w h x y n => exact pane_cut hn (h1 _ _ _ _ _ rfl) e hp hne
  | two row w h x y a b => exact (pcell_cut _ _ _ 25 5 hn hf e hp hne).2 fun _ _ _ _ _ e => nomatch e
  | three row w h x y a b c => exact (pcell_cut _ _ _ 25 5 hn hf e hp hne).2 fun _ _ _ _ _ e => nomatch e
def T.pnum : T → Int
  | .pane _ _ _ _ n => n
  | _ => 0
theorem Tr.pnum {d : Nat} {row : Bool} {w h x y n k : Int} {t : T} (H : Tr d row w h x y n t k) (hn : n ≤ 6) : t.pnum < 10 := by
  cases H with
  | pane _ _ h1 h2 => exact Int.lt_of_le_of_lt h2 (Int.lt_of_le_of_lt (Int.add_le_add_right hn 3) (by decide))
  | row2 => exact (by decide : (0 : Int) < 10)
  | row3 => exact (by decide : (0 : Int) < 10)
  | col2 => exact (by decide : (0 : Int) < 10)
  | col3 => exact (by decide : (0 : Int) < 10)
theorem Tr.one {d : Nat} {row : Bool} {w h x y n k : Int} {t : T} (H : Tr d row w h x y n t k) (hn : n ≤ 6) : ∀ w h x y m, t = .pane w h x y m → m < 10 := by
  intro w' h' x' y' m e
  have := H.pnum hn
  rw [e] at this
  exact this
/-- the same tree with another root's width -/
def T.wide (v : Int) : T → T
  | .pane _ h x y n => .pane v h x y n
  | .two row _ h x y a b => .two row v h x y a b
  | .three row _ h x y a b c => .three row v h x y a b c
theorem wide_body (t : T) (v : Int) : (t.wide v).body = dec v ++ t.body.drop (dec t.wd).length := by
  cases t <;> simp only [T.wide, T.body, T.wd, hdT, List.append_assoc, List.drop_left]
theorem wide_nums {t : T} {v : Int} (h : t.Nums) (hv : num v) : (t.wide v).Nums := by
  cases t with
  | pane => exact ⟨hv, h.2⟩
  | two => exact ⟨hv, h.2⟩
  | three => exact ⟨hv, h.2⟩
theorem wide_same (t : T) (v : Int) : (t.wide v).leafs = t.leafs ∧ (t.wide v).fuel = t.fuel ∧ (t.wide v).dep = t.dep ∧ (t.wide v).panes = t.panes := by
  cases t <;> exact ⟨rfl, rfl, rfl, rfl⟩
end Mine

theorem Mine.pk_3_2 {h₀ h : Heap} {L : Addr} {a0 a1 a2 : Addr × Obj} {rest : List (Addr × Obj)} (N : News h₀ L h (a0 :: a1 :: a2 :: rest)) : News h₀ L h (a2 :: rest) := by
  intro p hp
  refine N p ?_
  simp only [List.mem_cons] at hp ⊢
  grind only
theorem Mine.pk_3_12 {h₀ h : Heap} {L : Addr} {a0 a1 a2 : Addr × Obj} {rest : List (Addr × Obj)} (N : News h₀ L h (a0 :: a1 :: a2 :: rest)) : News h₀ L h (a1 :: a2 :: rest) := by
  intro p hp
  refine N p ?_
  simp only [List.mem_cons] at hp ⊢
  grind only
namespace Mine
local macro_rules | `(tactic| omega) => `(tactic| lia)
theorem words_R30 : True := by
  k_with_none
  k_with "exec If" => (k_here; (with_reducible refine wpAny_If ?_); (refine fold_Q1 ?_; intro qk8w))
  k_with "exec Assign" => (k_here; (refine wpAny_Assign_Name ?_); (refine fold_Q1 ?_; intro qk8w))
  k_with "exec Return some" => (k_here; (refine wpAny_Return_some ?_); (refine fold_Q1 ?_; intro qk8w))
  k_with "eval Name" => (k_here; name_kind "globalImplicit"; (fail_if_success (with_reducible show wpAny _ _ (eval _ (compEnvC _ _ _ _)) _ _ _)); k_dflt (first | (name_is_builtin; refine' nameX_B ?Fw9 ?Xw9 ?Tw9 ?ew9 ?vw9 ?nw9 ?_ ?aw9 ?bw9; (case Fw9 => k_asm); (case Xw9 => k_asm); (case Tw9 => k_asm); (case aw9 => rfl); (case bw9 => rfl); (case ew9 => k_is); (case vw9 => boot_fast); (case nw9 => decide); k_whole) | (refine' nameX_K ?Fw9 ?Xw9 ?Tw9 ?ew9 ?_ ?aw9 ?bw9; (case Fw9 => k_asm); (case Xw9 => k_asm); (case Tw9 => k_asm); (case aw9 => rfl); (case bw9 => rfl); (case ew9 => k_is); k_whole)))
  k_with "eval Name" => (k_here; name_kind "local"; (fail_if_success (with_reducible show wpAny _ _ (eval _ (compEnvC _ _ _ _)) _ _ _)); k_dflt (refine' nameX_L ?Fw9 ?vw9 ?_ ?aw9 ?bw9; (case Fw9 => k_asm); (case aw9 => rfl); (case bw9 => rfl); (case vw9 => rfl); k_whole))
  k_with "eval Attribute Name" => (k_here; k_dflt (refine' own_L ?Fw9 ?Xw9 ?vw9 ?Nw9 ?iw9 ?jw9 ?k4w9 ?k5w9 ?k6w9 ?k7w9 ?k8w9 ?k9w9 ?_ ?aw9 ?bw9 ?cw9; (case Fw9 => k_asm); (case Xw9 => k_asm); (case aw9 => rfl); (case bw9 => rfl); (case cw9 => exact rfl); (case vw9 => rfl); (case Nw9 => k_asm); (case iw9 => k_mem); (case jw9 => k_mem); (case k4w9 => k_is); (case k5w9 => k_is); (case k6w9 => k_is); (case k7w9 => k_is); (case k8w9 => k_get); (case k9w9 => k_handed); k_whole))
  k_with "getAttr ref" => (k_here; k_dflt (refine' get_own ?k1w9 ?k2w9 ?k3w9 ?k4w9 ?k5w9 ?k6w9 ?k7w9 ?k8w9 ?k9w9 ?_; (case k1w9 => k_asm); (case k2w9 => k_asm); (case k3w9 => k_inst); (case k4w9 => k_is); (case k5w9 => k_is); (case k6w9 => k_is); (case k7w9 => k_is); (case k8w9 => k_get); (case k9w9 => k_handed); k_whole))
  k_with "ite" => (first | with_reducible refine ite_tt ?_ | with_reducible refine ite_ff ?_ | with_reducible refine ite_True_then ?_)
  k_with "WhlIf" => (first | (refine WhlIf.yes (by (simp only [decide_eq_true_eq]; omega)) ?_) | (refine WhlIf.no (by (simp only [decide_eq_false_iff_not]; omega)) ?_))
  k_with "subscriptTail" => (k_here; (with_reducible show wpAny _ _ (subscriptTail _ (PySem.Expr.Slice _ _ none _) (Value.bytes (List.toArray _) _) (Value.ref _)) _ _ _); (with_reducible rename Fr _ _ _ _ => F'w); (with_reducible rename News _ _ _ _ => N'w); first | (refine bslice_ij (s := ⟨_, _, _, _, _⟩) F'w N'w (by omega) (by omega) (by omega) (by first | with_reducible assumption | exact rfl) ?_; intro h'w t'w k'w F'w N'w; (try k_sweep)) | (refine bslice_j (s := ⟨_, _, _, _, _⟩) F'w N'w (by omega) (by omega) (by first | with_reducible assumption | exact rfl) ?_; intro h'w t'w k'w F'w N'w; (try k_sweep)) | (refine bslice_i (s := ⟨_, _, _, _, _⟩) F'w N'w (by omega) (by omega) (by first | with_reducible assumption | exact rfl) ?_; intro h'w t'w k'w F'w N'w; (try k_sweep)))
  k_with "exec Raise some none" => (k_here; (with_reducible show wpAny _ _ (exec (Stmt.Raise (some (PySem.Expr.Call (PySem.Expr.Name _ _) [_] [] _)) none _) _) _ _ _); k_dflt (refine' Raise_bad ?Fw9 ?Xw9 ?Tw9 ?hw9 ?_ ?ew9 ?kw9 ?xw9; (case Fw9 => k_asm); (case Xw9 => k_asm); (case Tw9 => k_asm); (case hw9 => rfl); (case ew9 => rfl); (case kw9 => rfl); (case xw9 => rfl); k_whole))
  k_with "RaiseB" => (k_dflt (refine' raise_here ?Bw9 ?Fw9 ?Xw9 ?Nw9 ?Tw9 ?kw9 ?dw9 ?_; (case Bw9 => k_asm); (case Fw9 => k_asm); (case Xw9 => k_asm); (case Nw9 => k_asm); (case Tw9 => k_asm); (case kw9 => rfl); (case dw9 => ktr_room)); intro e9w dd9w tk9w k9w h9w R9w U9w)
  k_with "leaving ref" => (k_here; (refine' raise_next ?Kw9 ?Fw9 ?Rw9 ?Uw9 ?_; (case Rw9 => assumption); (case Kw9 => assumption); (case Uw9 => assumption); (case Fw9 => assumption)); intro h9w R9w U9w)
  k_with "compareOp NotIn bytes ref" => (k_here; k_dflt (refine' notin_signs ?Nw9 ?tw9 ?iw9 ?_; (case Nw9 => k_asm); (case tw9 => k_mem); (case iw9 => first | assumption | exact .cons .nil | exact .cons (.cons .nil) | exact .cons (.cons (.cons .nil))); k_whole))
  k_with "call ref" => (k_here; (with_reducible show wpAny _ _ (call (Value.ref _) _ _) _ _ _); (fail_if_success (with_reducible show wpAny _ _ (call (Value.ref 78) _ _) _ _ _)); (fail_if_success (with_reducible show wpAny _ _ (call (Value.ref 175) _ _) _ _ _)); refine stop_of ?_)
  k_with "UnrEnd" => (k_here; (refine' unr_keep ?Fw9 ?Nw9 ?ow9 ?_; (case Fw9 => assumption); (case Nw9 => k_asm); (case ow9 => exact fun p hp => Nat.ne_of_lt ((by assumption : ∀ p ∈ _, p.1 < _) p hp)); k_whole))
  k_with "exec While BoolOp" => (k_here; k_dflt (refine whl_start 100 ?_))
  k_with "execs cons" => (k_here; (try k_gentoks); (try (refine fold_Q ?_; intro qk9w ek9w)); (with_reducible refine wpAny_execs_cons ?_); (try dsimp only))
  k_with "storeName" => (k_here; k_dflt (refine' storeX_M ?Fw9 ?Nw9 ?_ ?aw9 ?bw9; (case Fw9 => k_asm); (case Nw9 => k_asm); (case aw9 => rfl); (case bw9 => rfl); k_whole; intro m9w h'w t9w F'w N'w; (try k_sweep); (try dsimp only)))
  k_with "storeName" => (k_here; (first | with_reducible refine tok_intA ?_ | with_reducible refine tok_intS ?_ | with_reducible refine tok_bytA ?_ | with_reducible refine tok_bytS ?_); intro t9w)
  k_with "call builtin:list.append" => (k_here; (first | with_reducible refine tok_appA ?_ | with_reducible refine tok_appS ?_); intro t9w)
  k_with "call ref" => (k_here; (with_reducible show wpAny _ _ (call (Value.ref 78) _ _) _ _ _); refine stop_of ?_)
  k_with "callWith ref" => (k_here; (with_reducible show wpAny _ _ (callWith _ (Value.ref _) _ (backTo _ (starEach [] _)) []) _ _ _); k_dflt (refine' callWith_K0 ?k1w9 ?k2w9 ?_; (case k1w9 => k_in); (case k2w9 => k_is); k_whole))
  k_with "exec While Name" => (k_here; refine stop_of ?_)
  k_with "subscriptTail" => (k_here; (with_reducible show wpAny _ _ (subscriptTail _ _ (Value.ref _) (Value.str _ _)) _ _ _); k_dflt (refine kda_item (knd := PySem.strKind _ _) (by k_asm) (by k_mem) (by assumption) (strKind_is _ _ _ _) (by rfl) ?_))
  k_with "setItem ref str" => (k_here; k_dflt (refine' kda_set (knd := PySem.strKind _ _) ?Fw9 ?Nw9 ?Uw9 ?dw9 (strKind_is _ _ _ _) ?zw9 ?_; (case Fw9 => k_asm); (case Nw9 => k_asm); (case Uw9 => k_updF); (case dw9 => assumption); (case zw9 => rw [sizeLine_eq]; exact Nat.le_of_ble_eq_true (by with_unfolding_all rfl))); intro h'w o'w F'w N'w hd'w; (try dsimp only at N'w))
  k_with "call builtin:len" => (k_here; k_dflt (refine i_len (by k_asm) (by k_mem) (by assumption) (by omega) ?_))
  k_with "exec For Name Name cons nil" => (k_here; (rename Fr _ _ _ _ => lF'w); (with_unfolding_all refine' For_invVF lF'w ?k1w9 ?k2w9 ?_; (case k1w9 => exact rfl); (case k2w9 => exact rfl); k_whole))
  k_with "pyIter ref" => (k_here; refine stop_of ?_)
  k_with "UnrEnd" => (k_here; refine stop_of ?_)
  k_with "call builtin:list.extend" => (k_here; refine stop_of ?_)
  k_with "call builtin:sum" => (k_here; refine stop_of ?_)
  k_with "eval ListComp" => (k_here; k_dflt (refine LCg.ListComp_U (F₀ := by k_asm) (by rfl) (by decide) (by rfl) (by decide) (by rfl) ?_))
  k_with "CompSrc" => (k_here; refine stop_of ?_)
  trivial
/-- a cell, whatever its kind: its width and height -/
theorem cIn_any_k {w : World} {news : Led} {t : T} {P : Value → Prop} (k : ∀ a d k1 k2 k3 k4 k5 k6 k7 kd t2 t3 x y ps pn, CellIn w news (.ref a) t → (a, instObj 78 d) ∈ news → (d, cellD w k1 k2 k3 k4 k5 k6 k7 kd (.int t.wd t2) (.int t.hg t3) x y ps pn) ∈ news → P (.ref a)) : ∀ v, CellIn w news v t → P v := by
  intro v H
  cases H with
  | pane h1 h2 h3 => exact k _ _ _ _ _ _ _ _ _ _ _ _ _ _ _ _ (.pane h1 h2 h3) h1 h2
  | two h1 h2 h3 h4 h5 => exact k _ _ _ _ _ _ _ _ _ _ _ _ _ _ _ _ (.two h1 h2 h3 h4 h5) h1 h2
  | three h1 h2 h3 h4 h5 h6 => exact k _ _ _ _ _ _ _ _ _ _ _ _ _ _ _ _ (.three h1 h2 h3 h4 h5 h6) h1 h2
/-- a comprehension over a list: each element an int, the heap may change in it -/
theorem compIntsX {prog : Program} {w : World} {A : Around} {h₀ : Heap} {L : Addr} {m : Str → Option Value} {env : Env} {elt : PySem.Expr} {x : Str} {scope : Scope} {cl : List (Str × Addr)} {s : Shared} {S : Led → Prop} {P : Nat → Value → Prop} {Fin : List Value → Led → Prop} {ns : List Int} {news : Led} (hS : S news)
   (hE : ∀ i v I oI C oC D ys m₂ h tk (E' : Value → Shared → Prop) (Q : Value → Shared → Prop), P i v → LCg.NsObj oC m₂ → m₂ x = some v → Fr h₀ L h m → News h₀ L h ((I, oI) :: (C, oC) :: (D, LCg.lst ys) :: news) →
     (∀ n u h' tk', ns[i]? = some n → Fr h₀ L h' m → News h₀ L h' ((I, oI) :: (C, oC) :: (D, LCg.lst ys) :: news) → Q (.int n u) { s with heap := h', toks := tk' }) → wpAny (model prog w) A (eval elt (compEnvC scope cl C env)) Q E' { s with heap := h, toks := tk })
   (hF : ∀ ys, IntsAre ys ns → Fin ys news) : ∀ (k i : Nat) (ys : List Value), i + k = ns.length → IntsAre ys (ns.take i) → LCg.CompRest prog w A h₀ L m env elt x scope cl s S P Fin k i ys news := by
  intro k
  induction k with
  | zero =>
    intro i ys hk hy
    rw [List.take_of_length_le (by omega)] at hy
    exact LCg.CompRest.zero (hF ys hy)
  | succ k ih =>
    intro i ys hk hy
    refine LCg.CompRest.succ ?_
    intro v I oI C oC D m₂ h tk E' hv hC hx F N off ne
    refine hE i v I oI C oC D ys m₂ h tk E' _ hv hC hx F N fun n u h' tk' hn F' N' => ?_
    refine cEnd F' N' off hS (ih (i + 1) _ (by omega) ?_)
    rw [List.take_add_one, hn]
    have app : ∀ {ys : List Value} {ms : List Int}, IntsAre ys ms → IntsAre (ys ++ [.int n u]) (ms ++ [n]) := by
      intro ys ms h
      induction h with
      | nil => exact .cons _ _ .nil
      | cons _ _ _ ih => exact .cons _ _ ih
    exact app hy
theorem cells_loop {prog : Program} {w : World} {A : Around} {E : Value → Shared → Prop} {h₀ : Heap} {env : Env} {x : Str} {body : List Stmt} {Q : Flow → Shared → Prop} {s : Shared} {I : Addr} {lp : Addr × Obj} {M : Int → Int → Tok → Tok → Option Value → Str → Option Value} {led base : Led} {PP : List T → Int → Int → Prop}
   (hz : ∀ X Y tX tY mp, PP [] X Y → ListRest prog w A E h₀ env x body Q s I lp [] (M X Y tX tY mp) led)
   (hs : ∀ t ts v vs X Y tX tY mp, CellIn w base v t → PP (t :: ts) X Y → (∀ X' Y' tX' tY' mp', PP ts X' Y' → ListRest prog w A E h₀ env x body Q s I lp vs (M X' Y' tX' tY' mp') led) → ListRest prog w A E h₀ env x body Q s I lp (v :: vs) (M X Y tX tY mp) led) :
   ∀ {vs : List Value} {ts : List T}, CellAll w base vs ts → ∀ X Y tX tY mp, PP ts X Y → ListRest prog w A E h₀ env x body Q s I lp vs (M X Y tX tY mp) led := by
  intro vs ts h
  induction h with
  | nil => exact hz
  | cons h _ ih => exact fun X Y tX tY mp hp => hs _ _ _ _ X Y tX tY mp h hp ih
section
variable {w : World} {mean : ExcName → Option Value} {mg mb : Str → Option Value}
theorem c_sideE {a d : Addr} {k1 k2 k3 k4 k5 k6 k7 : Tok} {kd : Value} {t2 t3 : Tok} {wd hg : Int} {x y ps pn : Value} {news : Led} (hi : (a, instObj 78 d) ∈ news) (hd : (d, cellD w k1 k2 k3 k4 k5 k6 k7 kd (.int wd t2) (.int hg t3) x y ps pn) ∈ news) (row : Bool) :
   CT w mean mg mb 101 [.ref a, .bool row] 5 news (fun r n' => ∃ u, r = .int (if row then wd else hg) u ∧ n' = news) := by
  intro dp un gd cn cs a0 ccd cl0 outer A₀ base0 h₀ L m s Q E B F X N T hk hdp hun hQ
  refine wpAny_call ?_
  k_dflt ktr_enter
  rename Fr _ _ _ _ => lF9
  refine fold_m lF9 ?_
  clear lF9
  intro m9 lF9
  cases row with
  | true =>
    k_steps
    exact hQ _ _ _ _ (by k_asm) (by k_asm) ⟨_, rfl, rfl⟩
  | false =>
    k_steps
    exact hQ _ _ _ _ (by k_asm) (by k_asm) ⟨_, rfl, rfl⟩
theorem c_sideEW {a d : Addr} {k1 k2 k3 k4 k5 k6 k7 : Tok} {kd : Value} {t2 t3 : Tok} {wd hg : Int} {x y ps pn : Value} {news : Led} (hi : (a, instObj 78 d) ∈ news) (hd : (d, cellD w k1 k2 k3 k4 k5 k6 k7 kd (.int wd t2) (.int hg t3) x y ps pn) ∈ news) :
   CT w mean mg mb 101 [.ref a, .bool true] 5 news (fun r n' => ∃ u, r = .int wd u ∧ n' = news) := c_sideE hi hd true
theorem c_sideEH {a d : Addr} {k1 k2 k3 k4 k5 k6 k7 : Tok} {kd : Value} {t2 t3 : Tok} {wd hg : Int} {x y ps pn : Value} {news : Led} (hi : (a, instObj 78 d) ∈ news) (hd : (d, cellD w k1 k2 k3 k4 k5 k6 k7 kd (.int wd t2) (.int hg t3) x y ps pn) ∈ news) :
   CT w mean mg mb 101 [.ref a, .bool false] 5 news (fun r n' => ∃ u, r = .int hg u ∧ n' = news) := c_sideE hi hd false
theorem c_side (t : T) (v : Value) (row : Bool) (news : Led) (H : CellIn w news v t) : CT w mean mg mb 101 [v, .bool row] 5 news (fun r n' => ∃ u, r = .int (if row then t.wd else t.hg) u ∧ n' = news) := by
  revert H
  revert v
  refine cIn_any_k ?_
  intro a d k1 k2 k3 k4 k5 k6 k7 kd t2 t3 x y ps pn _ hi hd
  exact c_sideE hi hd row
theorem c_sideW (t : T) (v : Value) (news : Led) (H : CellIn w news v t) : CT w mean mg mb 101 [v, .bool true] 5 news (fun r n' => ∃ u, r = .int t.wd u ∧ n' = news) := c_side t v true news H
theorem c_sideH (t : T) (v : Value) (news : Led) (H : CellIn w news v t) : CT w mean mg mb 101 [v, .bool false] 5 news (fun r n' => ∃ u, r = .int t.hg u ∧ n' = news) := c_side t v false news H
def RightOk (w : World) (mean : ExcName → Option Value) (mg mb : Str → Option Value) (t : T) (X Y : Int) : Prop :=
  ∀ (v : Value) (t1 t2 : Tok) (news : Led), CellIn w news v t → CT w mean mg mb 113 [v, .int X t1, .int Y t2] (20 + 20 * t.dep) news (fun r n' => r = .bool true ∧ n' = news)
/-- the parts fit: each as high (or wide) as the box and right at its place; b is false where one does not fit -/
def Parts (w : World) (mean : ExcName → Option Value) (mg mb : Str → Option Value) (row : Bool) (C : Int) : Bool → List T → Int → Int → Prop
  | b, [], _, _ => b = true
  | b, t :: ts, X, Y => ((if row then t.hg else t.wd) ≠ C → b = false) ∧ ((if row then t.hg else t.wd) = C → RightOk w mean mg mb t X Y ∧ Parts w mean mg mb row C b ts (if row then X + t.wd + 1 else X) (if row then Y else Y + t.hg + 1))
theorem num_dep {ts : List T} {D : Nat} {t : T} {r : List T} (h : ∀ t ∈ ts, t.dep ≤ D ∧ t.Nums) (e : ∀ q ∈ t :: r, q ∈ ts) : t.dep ≤ D ∧ (num t.wd ∧ num t.hg) ∧ ∀ q ∈ r, q ∈ ts := ⟨(h t (e t (.head _))).1, nums_wh (h t (e t (.head _))).2, fun q hq => e q (.tail _ hq)⟩
theorem c_row (wd hg x y : Int) (ts : List T) (b : Bool) (D : Nat) (h2 : 2 ≤ ts.length) (h3 : ts.length ≤ 10) (hw : 1 ≤ wd) (hh : 1 ≤ hg) (hn : num wd ∧ num hg ∧ num x ∧ num y) (hdn : ∀ t ∈ ts, t.dep ≤ D ∧ t.Nums) (hP : Parts w mean mg mb true hg b ts x y)
   (a d l : Addr) (k1 k2 k3 k4 k5 k6 k7 t1 t2 t3 t4 t5 u1 u2 : Tok) (n : Nat) (vs : List Value) (news : Led) (hi : (a, instObj 78 d) ∈ news) (hd : (d, cellD w k1 k2 k3 k4 k5 k6 k7 (.str (kindS true) t1) (.int wd t2) (.int hg t3) (.int x t4) (.int y t5) (.ref l) .none) ∈ news)
   (hl : (l, W.listOf vs.toArray n) ∈ news) (hvs : CellAll w news vs ts) :
   CT w mean mg mb 113 [.ref a, .int x u1, .int y u2] (20 + 20 * (D + 1)) news (fun r n' => r = .bool (b && ((ts.map Mine.T.wd).sum + ts.length - 1 == wd)) ∧ n' = news) := by
  intro dp un gd cn cs a0 ccd cl0 outer A₀ base0 h₀ L m s Q E B F X0 N T hk hdp hun hQ
  obtain ⟨n1, n2⟩ := hn.1
  obtain ⟨n3, n4⟩ := hn.2.1
  obtain ⟨n5, n6⟩ := hn.2.2.1
  obtain ⟨n7, n8⟩ := hn.2.2.2
  have hvl := hvs.len
  have hn2 : ¬ ((ts.length : Int) < 2) := by omega
  have hn3 : ((ts.length : Int) ≤ 16384) := by omega
  refine wpAny_call ?_
  k_dflt (refine' code_defC ?k1 ?k2 ?k3 ?k4 ?k5 ?kA ?kF ?kK ?k6 ?k7 ?k8 ?k9 ?kB ?kD ?_ ?c2 ?c3 ?c4; (case kA => exact rfl); (case kF => exact rfl); (case kK => assumption); (case k1 => k_asm); (case k2 => k_asm); (case k3 => k_asm); (case k4 => k_asm); (case k5 => k_asm); (case k6 => k_is); (case k7 => k_is); (case k8 => ktr_room); (case k9 => exact BindsTo.of_eq rfl); (case kB => exact rfl); (case kD => decide +kernel); (case c2 => exact rfl); (case c3 => exact rfl); (case c4 => exact rfl); k_whole; intro g' L' h' tk' cells' FG' F' N' Y' B' X' T' l1; (try k_lt l1); k_cells Y'; (try simp only [List.cons_append, List.nil_append] at N'); (try dsimp only); (try k_lift B'); (try k_fold))
  rename Fr _ _ _ _ => lF9
  refine fold_m lF9 ?_
  clear lF9
  intro m9 lF9
  have hcr : ∀ p ∈ news, p.1 ≠ L' + 1 := fun p hp => Nat.ne_of_lt (Nat.lt_succ_of_lt (l1 p hp))
  k_steps
  k_dflt (refine kun_lenL (k := (ts.length : Int)) (News.isList (by k_asm) (.tail _ <| .tail _ <| .tail _ hl)) (by rw [List.size_toArray, hvl]) (by omega) ?_)
  k_steps
  unfold Stop
  rename Fr _ _ _ _ => lF'
  rename News _ _ _ _ => lN'
  with_unfolding_all refine iter_listUnr (by rfl) lF' (pk_3_2 lN') (.tail _ hl) (by rfl) (by rfl) ?_
  clear lF' lN'
  intro i' l1
  k_lt l1
  refine rest_cast (canon3 (a := Str.ofString "y") (b := Str.ofString "x") (c := Str.ofString "part") (va := some (.int y _)) (vb := some (.int x _)) (vc := none) rfl rfl rfl) ?_
  refine cells_loop (M := fun X Y tX tY mp z => if z = Str.ofString "y" then some (.int Y tY) else if z = Str.ofString "x" then some (.int X tX) else if z = Str.ofString "part" then mp else m9 z) (PP := fun qs X Y => Parts w mean mg mb true hg b qs X Y ∧ ∀ q ∈ qs, q ∈ ts) ?hz ?hs hvs x y _ _ none ⟨hP, fun _ h => h⟩
  case hs =>
    intro t qs v rs X Y tX tY mp hct
    revert hct
    revert v
    refine cIn_any_k ?_
    rintro _ da ka1 ka2 ka3 ka4 ka5 ka6 ka7 kda ta2 ta3 xa ya psa pna hct hia hda ⟨⟨p1, p2⟩, hsub⟩ ih
    obtain ⟨hdd, ⟨⟨w1, w2⟩, w3, w4⟩, hsub⟩ := num_dep hdn hsub
    k_steps
    unfold Stop
    (try (refine fold_Q ?_; intro qk9 ek9)); k_dflt (refine CT.use (c_sideH t _ _ (hct.mono ?s9)) (by k_asm) (by k_asm) (by k_asm) (by k_asm) (by k_asm) (by first | assumption | exact rfl) (by first | exact room_of hdp (by first | exact Nat.le_of_ble_eq_true rfl | exact Nat.le_add_right_of_le (Nat.le_of_ble_eq_true rfl) | omega) | (simp only [depth_under_make, depth_under_kw, depth_in1, depth_deeper, depth_caller, ktrTop]; omega) | ktr_room) (by first | exact units_of hun (by first | exact Nat.le_of_ble_eq_true rfl | exact Nat.le_add_right_of_le (Nat.le_of_ble_eq_true rfl) | omega) | (simp only [units_in1, units_deeper, Around.mark_units, units_caller, ktrTop]; omega) | ((try simp only [units_in1, units_deeper, Around.mark_units, units_caller] at *); (try dsimp only [ktrTop] at *); omega)) ?_)
    case s9 => exact fun p hp => .tail _ (.tail _ hp)
    refine use3 ?_
    intro h' tk' F' P9 rQ9 nQ9 kQ9
    obtain ⟨u, er9, en9⟩ := kQ9
    refine eq_rn er9 en9 ?_
    clear er9 en9
    (try clear nQ9)
    (try clear rQ9)
    intro N'
    (try clear P9)
    k_sweep
    k_steps
    unfold Stop
    (try (refine fold_Q ?_; intro qk9 ek9)); k_dflt (refine CT.use (c_sideEH (.tail _ (.tail _ hi)) (.tail _ (.tail _ hd))) (by k_asm) (by k_asm) (by k_asm) (by k_asm) (by k_asm) (by first | assumption | exact rfl) (by first | exact room_of hdp (by first | exact Nat.le_of_ble_eq_true rfl | exact Nat.le_add_right_of_le (Nat.le_of_ble_eq_true rfl) | omega) | (simp only [depth_under_make, depth_under_kw, depth_in1, depth_deeper, depth_caller, ktrTop]; omega) | ktr_room) (by first | exact units_of hun (by first | exact Nat.le_of_ble_eq_true rfl | exact Nat.le_add_right_of_le (Nat.le_of_ble_eq_true rfl) | omega) | (simp only [units_in1, units_deeper, Around.mark_units, units_caller, ktrTop]; omega) | ((try simp only [units_in1, units_deeper, Around.mark_units, units_caller] at *); (try dsimp only [ktrTop] at *); omega)) ?_)
    refine use3 ?_
    intro h' tk' F' P9 rQ9 nQ9 kQ9
    obtain ⟨u, er9, en9⟩ := kQ9
    refine eq_rn er9 en9 ?_
    clear er9 en9
    (try clear nQ9)
    (try clear rQ9)
    intro N'
    (try clear P9)
    k_sweep
    k_steps
    · obtain rfl := p1 (by assumption)
      exact hQ _ _ _ _ (by k_asm) (News.subs (by k_asm) fun p hp => .tail _ (.tail _ hp)) ⟨rfl, rfl⟩
    obtain ⟨hR, hPr⟩ := p2 (by assumption)
    unfold Stop
    (try (refine fold_Q ?_; intro qk9 ek9)); k_dflt (refine CT.use (hR _ _ _ _ (hct.mono ?s9)) (by k_asm) (by k_asm) (by k_asm) (by k_asm) (by k_asm) (by first | assumption | exact rfl) (by first | exact room_of hdp (by first | exact Nat.le_of_ble_eq_true rfl | exact Nat.le_add_right_of_le (Nat.le_of_ble_eq_true rfl) | omega) | (simp only [depth_under_make, depth_under_kw, depth_in1, depth_deeper, depth_caller, ktrTop]; omega) | ktr_room) (by first | exact units_of hun (by first | exact Nat.le_of_ble_eq_true rfl | exact Nat.le_add_right_of_le (Nat.le_of_ble_eq_true rfl) | omega) | (simp only [units_in1, units_deeper, Around.mark_units, units_caller, ktrTop]; omega) | ((try simp only [units_in1, units_deeper, Around.mark_units, units_caller] at *); (try dsimp only [ktrTop] at *); omega)) ?_)
    case s9 => exact fun p hp => .tail _ (.tail _ hp)
    refine use3 ?_
    intro h' tk' F' P9 rQ9 nQ9 kQ9
    obtain ⟨er9, en9⟩ := kQ9
    refine eq_rn er9 en9 ?_
    clear er9 en9
    (try clear nQ9)
    (try clear rQ9)
    intro N'
    (try clear P9)
    k_sweep
    k_steps
    unfold Stop
    refine unr_keep (by assumption) (pk_3_12 (by assumption)) (by k_all) ⟨.tail _ hl, ?_⟩
    exact rest_cast canon3s (ih _ _ _ _ _ ⟨hPr, hsub⟩)
  case hz =>
    rintro X Y tX tY mp ⟨hb0, -⟩
    replace hb0 : b = true := hb0
    k_steps
    unfold Stop
    refine LCg.CompSrc.ledger (by rfl) (by k_asm) (by k_asm) (.tail _ hl) ?sz ?_
    case sz => rw [sizeLine_eq, List.size_toArray]; omega
    intro g'
    refine compIntsX (ns := ts.map Mine.T.wd) ?hS ?hE ?hF _ 0 [] (by simp [hvl]) .nil
    case hS => exact .inr ⟨_, .tail _ hl, rfl, _, rfl⟩
    case hE =>
      intro i v I oI C oC D ys m₂ h tk E' Q' hv hC hx2 F' N' hQ'
      obtain ⟨t, ht, hct⟩ := hvs.get (by simpa using hv)
      k_steps
      unfold Stop
      (try (refine fold_Q ?_; intro qk9 ek9)); k_dflt (refine CT.use (c_sideW t _ _ (hct.mono ?s9)) (by k_asm) (by k_asm) (by k_asm) (by k_asm) (by k_asm) (by first | assumption | exact rfl) (by first | exact room_of hdp (by first | exact Nat.le_of_ble_eq_true rfl | exact Nat.le_add_right_of_le (Nat.le_of_ble_eq_true rfl) | omega) | (simp only [depth_under_make, depth_under_kw, depth_in1, depth_deeper, depth_caller, ktrTop]; omega) | ktr_room) (by first | exact units_of hun (by first | exact Nat.le_of_ble_eq_true rfl | exact Nat.le_add_right_of_le (Nat.le_of_ble_eq_true rfl) | omega) | (simp only [units_in1, units_deeper, Around.mark_units, units_caller, ktrTop]; omega) | ((try simp only [units_in1, units_deeper, Around.mark_units, units_caller] at *); (try dsimp only [ktrTop] at *); omega)) ?_)
      case s9 => exact fun p hp => .tail _ (.tail _ (.tail _ (.tail _ hp)))
      refine use3 ?_
      intro h' tk' F' P9 rQ9 nQ9 kQ9
      obtain ⟨u, er9, en9⟩ := kQ9
      refine eq_rn er9 en9 ?_
      clear er9 en9
      (try clear nQ9)
      (try clear rQ9)
      intro N'
      (try clear P9)
      k_sweep
      exact hQ' _ _ _ _ (by rw [List.getElem?_map, ht]; rfl) (by k_asm) (by k_asm)
    case hF =>
      intro ys hys D' h' tk' F' N' o1'
      dsimp only
      k_steps
      unfold Stop
      rename News _ _ _ _ => lN'
      k_dflt (refine sumK (by rfl) (by k_asm) lN' ⟨_, (lN' _ (.head _)).1, rfl, _, rfl⟩ hys ?_)
      clear lN'
      intro h' tk' t' F' N'
      k_steps
      k_dflt (refine kun_lenL (k := (ts.length : Int)) (News.isList (by k_asm) (.tail _ <| .tail _ hl)) (by rw [List.size_toArray, hvl]) (by omega) ?_)
      k_steps
      unfold Stop
      (try (refine fold_Q ?_; intro qk9 ek9)); k_dflt (refine CT.use (c_sideEW (.tail _ (.tail _ hi)) (.tail _ (.tail _ hd))) (by k_asm) (by k_asm) (by k_asm) (by k_asm) (by k_asm) (by first | assumption | exact rfl) (by first | exact room_of hdp (by first | exact Nat.le_of_ble_eq_true rfl | exact Nat.le_add_right_of_le (Nat.le_of_ble_eq_true rfl) | omega) | (simp only [depth_under_make, depth_under_kw, depth_in1, depth_deeper, depth_caller, ktrTop]; omega) | ktr_room) (by first | exact units_of hun (by first | exact Nat.le_of_ble_eq_true rfl | exact Nat.le_add_right_of_le (Nat.le_of_ble_eq_true rfl) | omega) | (simp only [units_in1, units_deeper, Around.mark_units, units_caller, ktrTop]; omega) | ((try simp only [units_in1, units_deeper, Around.mark_units, units_caller] at *); (try dsimp only [ktrTop] at *); omega)) ?_)
      refine use3 ?_
      intro h' tk' F' P9 rQ9 nQ9 kQ9
      obtain ⟨u, er9, en9⟩ := kQ9
      refine eq_rn er9 en9 ?_
      clear er9 en9
      (try clear nQ9)
      (try clear rQ9)
      intro N'
      (try clear P9)
      k_sweep
      k_steps
      exact hQ _ news _ _ (by k_asm) (News.subs (by k_asm) fun p hp => .tail _ (.tail _ hp)) ⟨by rw [hb0, Bool.true_and], rfl⟩
theorem c_col (wd hg x y : Int) (ts : List T) (b : Bool) (D : Nat) (h2 : 2 ≤ ts.length) (h3 : ts.length ≤ 10) (hw : 1 ≤ wd) (hh : 1 ≤ hg) (hn : num wd ∧ num hg ∧ num x ∧ num y) (hdn : ∀ t ∈ ts, t.dep ≤ D ∧ t.Nums) (hP : Parts w mean mg mb false wd b ts x y)
   (a d l : Addr) (k1 k2 k3 k4 k5 k6 k7 t1 t2 t3 t4 t5 u1 u2 : Tok) (n : Nat) (vs : List Value) (news : Led) (hi : (a, instObj 78 d) ∈ news) (hd : (d, cellD w k1 k2 k3 k4 k5 k6 k7 (.str (kindS false) t1) (.int wd t2) (.int hg t3) (.int x t4) (.int y t5) (.ref l) .none) ∈ news)
   (hl : (l, W.listOf vs.toArray n) ∈ news) (hvs : CellAll w news vs ts) :
   CT w mean mg mb 113 [.ref a, .int x u1, .int y u2] (20 + 20 * (D + 1)) news (fun r n' => r = .bool (b && ((ts.map Mine.T.hg).sum + ts.length - 1 == hg)) ∧ n' = news) := by
  intro dp un gd cn cs a0 ccd cl0 outer A₀ base0 h₀ L m s Q E B F X0 N T hk hdp hun hQ
  obtain ⟨n1, n2⟩ := hn.1
  obtain ⟨n3, n4⟩ := hn.2.1
  obtain ⟨n5, n6⟩ := hn.2.2.1
  obtain ⟨n7, n8⟩ := hn.2.2.2
  have hvl := hvs.len
  have hn2 : ¬ ((ts.length : Int) < 2) := by omega
  have hn3 : ((ts.length : Int) ≤ 16384) := by omega
  refine wpAny_call ?_
  k_dflt (refine' code_defC ?k1 ?k2 ?k3 ?k4 ?k5 ?kA ?kF ?kK ?k6 ?k7 ?k8 ?k9 ?kB ?kD ?_ ?c2 ?c3 ?c4; (case kA => exact rfl); (case kF => exact rfl); (case kK => assumption); (case k1 => k_asm); (case k2 => k_asm); (case k3 => k_asm); (case k4 => k_asm); (case k5 => k_asm); (case k6 => k_is); (case k7 => k_is); (case k8 => ktr_room); (case k9 => exact BindsTo.of_eq rfl); (case kB => exact rfl); (case kD => decide +kernel); (case c2 => exact rfl); (case c3 => exact rfl); (case c4 => exact rfl); k_whole; intro g' L' h' tk' cells' FG' F' N' Y' B' X' T' l1; (try k_lt l1); k_cells Y'; (try simp only [List.cons_append, List.nil_append] at N'); (try dsimp only); (try k_lift B'); (try k_fold))
  rename Fr _ _ _ _ => lF9
  refine fold_m lF9 ?_
  clear lF9
  intro m9 lF9
  have hcr : ∀ p ∈ news, p.1 ≠ L' + 1 := fun p hp => Nat.ne_of_lt (Nat.lt_succ_of_lt (l1 p hp))
  k_steps
  k_dflt (refine kun_lenL (k := (ts.length : Int)) (News.isList (by k_asm) (.tail _ <| .tail _ <| .tail _ hl)) (by rw [List.size_toArray, hvl]) (by omega) ?_)
  k_steps
  unfold Stop
  rename Fr _ _ _ _ => lF'
  rename News _ _ _ _ => lN'
  with_unfolding_all refine iter_listUnr (by rfl) lF' (pk_3_2 lN') (.tail _ hl) (by rfl) (by rfl) ?_
  clear lF' lN'
  intro i' l1
  k_lt l1
  refine rest_cast (canon3 (a := Str.ofString "y") (b := Str.ofString "x") (c := Str.ofString "part") (va := some (.int y _)) (vb := some (.int x _)) (vc := none) rfl rfl rfl) ?_
  refine cells_loop (M := fun X Y tX tY mp z => if z = Str.ofString "y" then some (.int Y tY) else if z = Str.ofString "x" then some (.int X tX) else if z = Str.ofString "part" then mp else m9 z) (PP := fun qs X Y => Parts w mean mg mb false wd b qs X Y ∧ ∀ q ∈ qs, q ∈ ts) ?hz ?hs hvs x y _ _ none ⟨hP, fun _ h => h⟩
  case hs =>
    intro t qs v rs X Y tX tY mp hct
    revert hct
    revert v
    refine cIn_any_k ?_
    rintro _ da ka1 ka2 ka3 ka4 ka5 ka6 ka7 kda ta2 ta3 xa ya psa pna hct hia hda ⟨⟨p1, p2⟩, hsub⟩ ih
    obtain ⟨hdd, ⟨⟨w1, w2⟩, w3, w4⟩, hsub⟩ := num_dep hdn hsub
    k_steps
    unfold Stop
    (try (refine fold_Q ?_; intro qk9 ek9)); k_dflt (refine CT.use (c_sideW t _ _ (hct.mono ?s9)) (by k_asm) (by k_asm) (by k_asm) (by k_asm) (by k_asm) (by first | assumption | exact rfl) (by first | exact room_of hdp (by first | exact Nat.le_of_ble_eq_true rfl | exact Nat.le_add_right_of_le (Nat.le_of_ble_eq_true rfl) | omega) | (simp only [depth_under_make, depth_under_kw, depth_in1, depth_deeper, depth_caller, ktrTop]; omega) | ktr_room) (by first | exact units_of hun (by first | exact Nat.le_of_ble_eq_true rfl | exact Nat.le_add_right_of_le (Nat.le_of_ble_eq_true rfl) | omega) | (simp only [units_in1, units_deeper, Around.mark_units, units_caller, ktrTop]; omega) | ((try simp only [units_in1, units_deeper, Around.mark_units, units_caller] at *); (try dsimp only [ktrTop] at *); omega)) ?_)
    case s9 => exact fun p hp => .tail _ (.tail _ hp)
    refine use3 ?_
    intro h' tk' F' P9 rQ9 nQ9 kQ9
    obtain ⟨u, er9, en9⟩ := kQ9
    refine eq_rn er9 en9 ?_
    clear er9 en9
    (try clear nQ9)
    (try clear rQ9)
    intro N'
    (try clear P9)
    k_sweep
    k_steps
    unfold Stop
    (try (refine fold_Q ?_; intro qk9 ek9)); k_dflt (refine CT.use (c_sideEW (.tail _ (.tail _ hi)) (.tail _ (.tail _ hd))) (by k_asm) (by k_asm) (by k_asm) (by k_asm) (by k_asm) (by first | assumption | exact rfl) (by first | exact room_of hdp (by first | exact Nat.le_of_ble_eq_true rfl | exact Nat.le_add_right_of_le (Nat.le_of_ble_eq_true rfl) | omega) | (simp only [depth_under_make, depth_under_kw, depth_in1, depth_deeper, depth_caller, ktrTop]; omega) | ktr_room) (by first | exact units_of hun (by first | exact Nat.le_of_ble_eq_true rfl | exact Nat.le_add_right_of_le (Nat.le_of_ble_eq_true rfl) | omega) | (simp only [units_in1, units_deeper, Around.mark_units, units_caller, ktrTop]; omega) | ((try simp only [units_in1, units_deeper, Around.mark_units, units_caller] at *); (try dsimp only [ktrTop] at *); omega)) ?_)
    refine use3 ?_
    intro h' tk' F' P9 rQ9 nQ9 kQ9
    obtain ⟨u, er9, en9⟩ := kQ9
    refine eq_rn er9 en9 ?_
    clear er9 en9
    (try clear nQ9)
    (try clear rQ9)
    intro N'
    (try clear P9)
    k_sweep
    k_steps
    · obtain rfl := p1 (by assumption)
      exact hQ _ _ _ _ (by k_asm) (News.subs (by k_asm) fun p hp => .tail _ (.tail _ hp)) ⟨rfl, rfl⟩
    obtain ⟨hR, hPr⟩ := p2 (by assumption)
    unfold Stop
    (try (refine fold_Q ?_; intro qk9 ek9)); k_dflt (refine CT.use (hR _ _ _ _ (hct.mono ?s9)) (by k_asm) (by k_asm) (by k_asm) (by k_asm) (by k_asm) (by first | assumption | exact rfl) (by first | exact room_of hdp (by first | exact Nat.le_of_ble_eq_true rfl | exact Nat.le_add_right_of_le (Nat.le_of_ble_eq_true rfl) | omega) | (simp only [depth_under_make, depth_under_kw, depth_in1, depth_deeper, depth_caller, ktrTop]; omega) | ktr_room) (by first | exact units_of hun (by first | exact Nat.le_of_ble_eq_true rfl | exact Nat.le_add_right_of_le (Nat.le_of_ble_eq_true rfl) | omega) | (simp only [units_in1, units_deeper, Around.mark_units, units_caller, ktrTop]; omega) | ((try simp only [units_in1, units_deeper, Around.mark_units, units_caller] at *); (try dsimp only [ktrTop] at *); omega)) ?_)
    case s9 => exact fun p hp => .tail _ (.tail _ hp)
    refine use3 ?_
    intro h' tk' F' P9 rQ9 nQ9 kQ9
    obtain ⟨er9, en9⟩ := kQ9
    refine eq_rn er9 en9 ?_
    clear er9 en9
    (try clear nQ9)
    (try clear rQ9)
    intro N'
    (try clear P9)
    k_sweep
    k_steps
    unfold Stop
    refine unr_keep (by assumption) (pk_3_12 (by assumption)) (by k_all) ⟨.tail _ hl, ?_⟩
    exact rest_cast canon3s (ih _ _ _ _ _ ⟨hPr, hsub⟩)
  case hz =>
    rintro X Y tX tY mp ⟨hb0, -⟩
    replace hb0 : b = true := hb0
    k_steps
    unfold Stop
    refine LCg.CompSrc.ledger (by rfl) (by k_asm) (by k_asm) (.tail _ hl) ?sz ?_
    case sz => rw [sizeLine_eq, List.size_toArray]; omega
    intro g'
    refine compIntsX (ns := ts.map Mine.T.hg) ?hS ?hE ?hF _ 0 [] (by simp [hvl]) .nil
    case hS => exact .inr ⟨_, .tail _ hl, rfl, _, rfl⟩
    case hE =>
      intro i v I oI C oC D ys m₂ h tk E' Q' hv hC hx2 F' N' hQ'
      obtain ⟨t, ht, hct⟩ := hvs.get (by simpa using hv)
      k_steps
      unfold Stop
      (try (refine fold_Q ?_; intro qk9 ek9)); k_dflt (refine CT.use (c_sideH t _ _ (hct.mono ?s9)) (by k_asm) (by k_asm) (by k_asm) (by k_asm) (by k_asm) (by first | assumption | exact rfl) (by first | exact room_of hdp (by first | exact Nat.le_of_ble_eq_true rfl | exact Nat.le_add_right_of_le (Nat.le_of_ble_eq_true rfl) | omega) | (simp only [depth_under_make, depth_under_kw, depth_in1, depth_deeper, depth_caller, ktrTop]; omega) | ktr_room) (by first | exact units_of hun (by first | exact Nat.le_of_ble_eq_true rfl | exact Nat.le_add_right_of_le (Nat.le_of_ble_eq_true rfl) | omega) | (simp only [units_in1, units_deeper, Around.mark_units, units_caller, ktrTop]; omega) | ((try simp only [units_in1, units_deeper, Around.mark_units, units_caller] at *); (try dsimp only [ktrTop] at *); omega)) ?_)
      case s9 => exact fun p hp => .tail _ (.tail _ (.tail _ (.tail _ hp)))
      refine use3 ?_
      intro h' tk' F' P9 rQ9 nQ9 kQ9
      obtain ⟨u, er9, en9⟩ := kQ9
      refine eq_rn er9 en9 ?_
      clear er9 en9
      (try clear nQ9)
      (try clear rQ9)
      intro N'
      (try clear P9)
      k_sweep
      exact hQ' _ _ _ _ (by rw [List.getElem?_map, ht]; rfl) (by k_asm) (by k_asm)
    case hF =>
      intro ys hys D' h' tk' F' N' o1'
      dsimp only
      k_steps
      unfold Stop
      rename News _ _ _ _ => lN'
      k_dflt (refine sumK (by rfl) (by k_asm) lN' ⟨_, (lN' _ (.head _)).1, rfl, _, rfl⟩ hys ?_)
      clear lN'
      intro h' tk' t' F' N'
      k_steps
      k_dflt (refine kun_lenL (k := (ts.length : Int)) (News.isList (by k_asm) (.tail _ <| .tail _ hl)) (by rw [List.size_toArray, hvl]) (by omega) ?_)
      k_steps
      unfold Stop
      (try (refine fold_Q ?_; intro qk9 ek9)); k_dflt (refine CT.use (c_sideEH (.tail _ (.tail _ hi)) (.tail _ (.tail _ hd))) (by k_asm) (by k_asm) (by k_asm) (by k_asm) (by k_asm) (by first | assumption | exact rfl) (by first | exact room_of hdp (by first | exact Nat.le_of_ble_eq_true rfl | exact Nat.le_add_right_of_le (Nat.le_of_ble_eq_true rfl) | omega) | (simp only [depth_under_make, depth_under_kw, depth_in1, depth_deeper, depth_caller, ktrTop]; omega) | ktr_room) (by first | exact units_of hun (by first | exact Nat.le_of_ble_eq_true rfl | exact Nat.le_add_right_of_le (Nat.le_of_ble_eq_true rfl) | omega) | (simp only [units_in1, units_deeper, Around.mark_units, units_caller, ktrTop]; omega) | ((try simp only [units_in1, units_deeper, Around.mark_units, units_caller] at *); (try dsimp only [ktrTop] at *); omega)) ?_)
      refine use3 ?_
      intro h' tk' F' P9 rQ9 nQ9 kQ9
      obtain ⟨u, er9, en9⟩ := kQ9
      refine eq_rn er9 en9 ?_
      clear er9 en9
      (try clear nQ9)
      (try clear rQ9)
      intro N'
      (try clear P9)
      k_sweep
      k_steps
      exact hQ _ news _ _ (by k_asm) (News.subs (by k_asm) fun p hp => .tail _ (.tail _ hp)) ⟨by rw [hb0, Bool.true_and], rfl⟩
theorem c_box2 (row : Bool) (wd hg x y : Int) (ta tb : T) (b : Bool) (hn : (Mine.T.two row wd hg x y ta tb).Nums) (hw : 1 ≤ wd) (hh : 1 ≤ hg) (hP : Parts w mean mg mb row (if row then hg else wd) b [ta, tb] x y) (v : Value) (t1 t2 : Tok) (news : Led) (H : CellIn w news v (.two row wd hg x y ta tb)) :
   CT w mean mg mb 113 [v, .int x t1, .int y t2] (20 + 20 * (Mine.T.two row wd hg x y ta tb).dep) news (fun r n' => r = .bool (b && (if row then [ta.wd, tb.wd].sum + 2 - 1 == wd else [ta.hg, tb.hg].sum + 2 - 1 == hg)) ∧ n' = news) := by
  obtain ⟨n1, n2, n3, n4, hna, hnb⟩ := hn
  revert H
  revert v
  refine cIn_two_k ?_
  intro a d l k1 k2 k3 k4 k5 k6 k7 t1 t2 t3 t4 t5 n va vb hi hd hl ha hb
  have hdn : ∀ t ∈ [ta, tb], t.dep ≤ ta.dep + tb.dep ∧ t.Nums := by
    simp only [List.mem_cons, List.not_mem_nil, or_false]
    rintro t (rfl | rfl)
    · exact ⟨by omega, hna⟩
    · exact ⟨by omega, hnb⟩
  rw [show (Mine.T.two row wd hg x y ta tb).dep = ta.dep + tb.dep + 1 by simp only [Mine.T.dep]; omega]
  cases row with
  | true => exact c_row wd hg x y [ta, tb] b _ (Nat.le_of_ble_eq_true rfl) (Nat.le_of_ble_eq_true rfl) hw hh ⟨n1, n2, n3, n4⟩ hdn hP a d l _ _ _ _ _ _ _ _ _ _ _ _ _ _ n [.ref va, .ref vb] news hi hd hl (.cons ha (.cons hb .nil))
  | false => exact c_col wd hg x y [ta, tb] b _ (Nat.le_of_ble_eq_true rfl) (Nat.le_of_ble_eq_true rfl) hw hh ⟨n1, n2, n3, n4⟩ hdn hP a d l _ _ _ _ _ _ _ _ _ _ _ _ _ _ n [.ref va, .ref vb] news hi hd hl (.cons ha (.cons hb .nil))
theorem c_box3 (row : Bool) (wd hg x y : Int) (ta tb tc : T) (b : Bool) (hn : (Mine.T.three row wd hg x y ta tb tc).Nums) (hw : 1 ≤ wd) (hh : 1 ≤ hg) (hP : Parts w mean mg mb row (if row then hg else wd) b [ta, tb, tc] x y) (v : Value) (t1 t2 : Tok) (news : Led) (H : CellIn w news v (.three row wd hg x y ta tb tc)) :
   CT w mean mg mb 113 [v, .int x t1, .int y t2] (20 + 20 * (Mine.T.three row wd hg x y ta tb tc).dep) news (fun r n' => r = .bool (b && (if row then [ta.wd, tb.wd, tc.wd].sum + 3 - 1 == wd else [ta.hg, tb.hg, tc.hg].sum + 3 - 1 == hg)) ∧ n' = news) := by
  obtain ⟨n1, n2, n3, n4, hna, hnb, hnc⟩ := hn
  revert H
  revert v
  refine cIn_three_k ?_
  intro a d l k1 k2 k3 k4 k5 k6 k7 t1 t2 t3 t4 t5 n va vb vc hi hd hl ha hb hc
  have hdn : ∀ t ∈ [ta, tb, tc], t.dep ≤ ta.dep + tb.dep + tc.dep ∧ t.Nums := by
    simp only [List.mem_cons, List.not_mem_nil, or_false]
    rintro t (rfl | rfl | rfl)
    · exact ⟨by omega, hna⟩
    · exact ⟨by omega, hnb⟩
    · exact ⟨by omega, hnc⟩
  rw [show (Mine.T.three row wd hg x y ta tb tc).dep = ta.dep + tb.dep + tc.dep + 1 by simp only [Mine.T.dep]; omega]
  cases row with
  | true => exact c_row wd hg x y [ta, tb, tc] b _ (Nat.le_of_ble_eq_true rfl) (Nat.le_of_ble_eq_true rfl) hw hh ⟨n1, n2, n3, n4⟩ hdn hP a d l _ _ _ _ _ _ _ _ _ _ _ _ _ _ n [.ref va, .ref vb, .ref vc] news hi hd hl (.cons ha (.cons hb (.cons hc .nil)))
  | false => exact c_col wd hg x y [ta, tb, tc] b _ (Nat.le_of_ble_eq_true rfl) (Nat.le_of_ble_eq_true rfl) hw hh ⟨n1, n2, n3, n4⟩ hdn hP a d l _ _ _ _ _ _ _ _ _ _ _ _ _ _ n [.ref va, .ref vb, .ref vc] news hi hd hl (.cons ha (.cons hb (.cons hc .nil)))
theorem c_right (t : T) : ∀ (X Y : Int), t.Nums → t.Tiles X Y → RightOk w mean mg mb t X Y := by
  induction t with
  | pane wd hg x y k =>
    intro X Y hn ht v u1 u2 news H
    revert H
    revert v
    refine cIn_pane_k ?_
    intro a d l k1 k2 k3 k4 k5 k6 k7 t1 t2 t3 t4 t5 t6 n hi hd hl
    intro dp un gd cn cs a0 ccd cl0 outer A₀ base0 h₀ L m s Q E B F X0 N T hk hdp hun hQ
    simp only [Mine.T.dep] at hdp hun
    obtain ⟨rfl, rfl, hw, hh⟩ := ht
    obtain ⟨⟨n1, n2⟩, ⟨n3, n4⟩, ⟨n5, n6⟩, ⟨n7, n8⟩, -⟩ := hn
    refine wpAny_call ?_
    k_dflt (refine' code_defC ?k1 ?k2 ?k3 ?k4 ?k5 ?kA ?kF ?kK ?k6 ?k7 ?k8 ?k9 ?kB ?kD ?_ ?c2 ?c3 ?c4; (case kA => exact rfl); (case kF => exact rfl); (case kK => assumption); (case k1 => k_asm); (case k2 => k_asm); (case k3 => k_asm); (case k4 => k_asm); (case k5 => k_asm); (case k6 => k_is); (case k7 => k_is); (case k8 => ktr_room); (case k9 => exact BindsTo.of_eq rfl); (case kB => exact rfl); (case kD => decide +kernel); (case c2 => exact rfl); (case c3 => exact rfl); (case c4 => exact rfl); k_whole; intro g' L' h' tk' cells' FG' F' N' Y' B' X' T' l1; (try k_lt l1); k_cells Y'; (try simp only [List.cons_append, List.nil_append] at N'); (try dsimp only); (try k_lift B'); (try k_fold))
    rename Fr _ _ _ _ => lF9
    refine fold_m lF9 ?_
    clear lF9
    intro m9 lF9
    have hcr : ∀ p ∈ news, p.1 ≠ L' + 1 := fun p hp => Nat.ne_of_lt (Nat.lt_succ_of_lt (l1 p hp))
    k_steps
    exact hQ _ _ _ _ (by k_asm) (News.subs (by k_asm) (by kqd_sub)) ⟨rfl, rfl⟩
  | two row wd hg x y ta tb iha ihb =>
    intro X Y hn ht v u1 u2 news H
    obtain ⟨rfl, rfl, hw, hh, ht⟩ := ht
    cases row with
    | true =>
      obtain ⟨e1, e2, ea, eb, es⟩ := ht
      have := c_box2 true wd hg x y ta tb true hn hw hh ⟨fun z => absurd e1 z, fun _ => ⟨iha _ _ hn.2.2.2.2.1 ea, fun z => absurd e2 z, fun _ => ⟨ihb _ _ hn.2.2.2.2.2 eb, rfl⟩⟩⟩ v u1 u2 news H
      rw [if_pos rfl, sum2 es] at this
      exact this
    | false =>
      obtain ⟨e1, e2, ea, eb, es⟩ := ht
      have := c_box2 false wd hg x y ta tb true hn hw hh ⟨fun z => absurd e1 z, fun _ => ⟨iha _ _ hn.2.2.2.2.1 ea, fun z => absurd e2 z, fun _ => ⟨ihb _ _ hn.2.2.2.2.2 eb, rfl⟩⟩⟩ v u1 u2 news H
      rw [if_neg Bool.false_ne_true, sum2 es] at this
      exact this
  | three row wd hg x y ta tb tc iha ihb ihc =>
    intro X Y hn ht v u1 u2 news H
    obtain ⟨rfl, rfl, hw, hh, ht⟩ := ht
    cases row with
    | true =>
      obtain ⟨e1, e2, e3, ea, eb, ec, es⟩ := ht
      have := c_box3 true wd hg x y ta tb tc true hn hw hh ⟨fun z => absurd e1 z, fun _ => ⟨iha _ _ hn.2.2.2.2.1 ea, fun z => absurd e2 z, fun _ => ⟨ihb _ _ hn.2.2.2.2.2.1 eb, fun z => absurd e3 z, fun _ => ⟨ihc _ _ hn.2.2.2.2.2.2 ec, rfl⟩⟩⟩⟩ v u1 u2 news H
      rw [if_pos rfl, sum3 es] at this
      exact this
    | false =>
      obtain ⟨e1, e2, e3, ea, eb, ec, es⟩ := ht
      have := c_box3 false wd hg x y ta tb tc true hn hw hh ⟨fun z => absurd e1 z, fun _ => ⟨iha _ _ hn.2.2.2.2.1 ea, fun z => absurd e2 z, fun _ => ⟨ihb _ _ hn.2.2.2.2.2.1 eb, fun z => absurd e3 z, fun _ => ⟨ihc _ _ hn.2.2.2.2.2.2 ec, rfl⟩⟩⟩⟩ v u1 u2 news H
      rw [if_neg Bool.false_ne_true, sum3 es] at this
      exact this
theorem c_two_bad (wd hg x y : Int) (ta tb : T) (hn : (Mine.T.two false wd hg x y ta tb).Nums) (hw : 1 ≤ wd) (hh : 1 ≤ hg) (e1 : ta.wd ≠ (Mine.T.two false wd hg x y ta tb).wd) : ∀ (v : Value) (t1 t2 : Tok) (news : Led), CellIn w news v (.two false wd hg x y ta tb) →
   CT w mean mg mb 113 [v, .int x t1, .int y t2] (20 + 20 * (Mine.T.two false wd hg x y ta tb).dep) news (fun r n' => r = .bool false ∧ n' = news) := by
  intro v t1 t2 news H
  exact c_box2 false wd hg x y ta tb false hn hw hh ⟨fun _ => rfl, fun z => absurd z e1⟩ v t1 t2 news H
theorem c_three_bad (wd hg x y : Int) (ta tb tc : T) (hn : (Mine.T.three false wd hg x y ta tb tc).Nums) (hw : 1 ≤ wd) (hh : 1 ≤ hg) (e1 : ta.wd ≠ (Mine.T.three false wd hg x y ta tb tc).wd) : ∀ (v : Value) (t1 t2 : Tok) (news : Led), CellIn w news v (.three false wd hg x y ta tb tc) →
   CT w mean mg mb 113 [v, .int x t1, .int y t2] (20 + 20 * (Mine.T.three false wd hg x y ta tb tc).dep) news (fun r n' => r = .bool false ∧ n' = news) := by
  intro v t1 t2 news H
  exact c_box3 false wd hg x y ta tb tc false hn hw hh ⟨fun _ => rfl, fun z => absurd z e1⟩ v t1 t2 news H
theorem c_tiling (t : T) (b : Bool) (h : ∀ (v : Value) (t1 t2 : Tok) (news : Led), CellIn w news v t → CT w mean mg mb 113 [v, .int 0 t1, .int 0 t2] (20 + 20 * t.dep) news (fun r n' => r = .bool b ∧ n' = news)) (hd : t.dep ≤ 10) (v : Value) (news : Led) (H : CellIn w news v t) :
   CT w mean mg mb 108 [v] 400 news (fun r n' => r = .bool b ∧ n' = news) := by
  intro dp un gd cn cs a0 ccd cl0 outer A₀ base0 h₀ L m s Q E B F X0 N T hk hdp hun hQ
  obtain ⟨va, rfl⟩ := H.ref
  refine wpAny_call ?_
  k_dflt ktr_enter
  rename Fr _ _ _ _ => lF9
  refine fold_m lF9 ?_
  clear lF9
  intro m9 lF9
  k_steps
  unfold Stop
  (try (refine fold_Q ?_; intro qk9 ek9)); k_dflt (refine CT.use (h _ _ _ _ H) (by k_asm) (by k_asm) (by k_asm) (by k_asm) (by k_asm) (by first | assumption | exact rfl) (by first | exact room_of hdp (by first | exact Nat.le_of_ble_eq_true rfl | exact Nat.le_add_right_of_le (Nat.le_of_ble_eq_true rfl) | omega) | (simp only [depth_under_make, depth_under_kw, depth_in1, depth_deeper, depth_caller, ktrTop]; omega) | ktr_room) (by first | exact units_of hun (by first | exact Nat.le_of_ble_eq_true rfl | exact Nat.le_add_right_of_le (Nat.le_of_ble_eq_true rfl) | omega) | (simp only [units_in1, units_deeper, Around.mark_units, units_caller, ktrTop]; omega) | ((try simp only [units_in1, units_deeper, Around.mark_units, units_caller] at *); (try dsimp only [ktrTop] at *); omega)) ?_)
  refine use3 ?_
  intro h' tk' F' P9 rQ9 nQ9 kQ9
  obtain ⟨er9, en9⟩ := kQ9
  refine eq_rn er9 en9 ?_
  clear er9 en9
  (try clear nQ9)
  (try clear rQ9)
  intro N'
  (try clear P9)
  k_sweep
  k_steps
  exact hQ _ _ _ _ (by k_asm) (by k_asm) ⟨rfl, rfl⟩
end
end Mine

namespace Mine
local macro_rules | `(tactic| omega) => `(tactic| lia)
theorem words_PC : True := by
  k_with_none
  trivial
theorem kqd_up : ∀ (n : Nat) (d : Dat), kqdOk n d = true → kqdOk (n + 1) d = true := by
  intro n
  induction n with
  | zero =>
    intro d h
    cases d <;> simp_all [kqdOk]
  | succ n ih =>
    intro d h
    cases d with
    | tuple ds =>
      simp only [kqdOk, List.all_eq_true] at h ⊢
      exact fun x hx => ih x (h x hx)
    | list ds =>
      simp only [kqdOk, List.all_eq_true] at h ⊢
      exact fun x hx => ih x (h x hx)
    | _ => simp_all [kqdOk]
theorem Tr.ok {d : Nat} {row : Bool} {w h x y n k : Int} {t : T} (H : Tr d row w h x y n t k) : kqdOk (2 * d + 2) t.dat = true := by
  have sk : ∀ row : Bool, PyData.strOk (kindS row) = true := by intro row; cases row <;> decide +kernel
  have sp : PyData.strOk (Str.ofString "pane") = true := by decide +kernel
  induction H with
  | pane => simp [T.dat, kqdOk, sp]
  | row2 _ _ _ _ _ i1 i2 => simp only [T.dat, kqdOk, List.all_cons, List.all_nil, Bool.and_true, Bool.and_eq_true, sk, true_and]; simp only [Nat.mul_add, i1, i2, and_self, kqdOk, List.all_cons, List.all_nil, Bool.and_true]
  | row3 _ _ _ _ _ _ _ i1 i2 i3 => simp only [T.dat, kqdOk, List.all_cons, List.all_nil, Bool.and_true, Bool.and_eq_true, sk, true_and]; simp only [Nat.mul_add, i1, i2, i3, and_self, kqdOk, List.all_cons, List.all_nil, Bool.and_true]
  | col2 _ _ _ _ _ i1 i2 => simp only [T.dat, kqdOk, List.all_cons, List.all_nil, Bool.and_true, Bool.and_eq_true, sk, true_and]; simp only [Nat.mul_add, i1, i2, and_self, kqdOk, List.all_cons, List.all_nil, Bool.and_true]
  | col3 _ _ _ _ _ _ _ i1 i2 i3 => simp only [T.dat, kqdOk, List.all_cons, List.all_nil, Bool.and_true, Bool.and_eq_true, sk, true_and]; simp only [Nat.mul_add, i1, i2, i3, and_self, kqdOk, List.all_cons, List.all_nil, Bool.and_true]
section
variable {prog : Program} {w : World} {A : Around} {E : Value → Shared → Prop} {s : Shared} {h₀ : Heap} {L : Addr} {news : Led} {v u : Value} {d : Dat} {Q : Value → Shared → Prop}
open Classical in
/-- two values that bear one datum are equal -/
theorem dat_ne (N : News h₀ L s.heap news) (H1 : DatIn news v d) (H2 : DatIn news u d) (hk : kqdOk 6 d = true) (hu : A.units + 64 < cLine) (h : Q (.bool false) s) : wpAny (model prog w) A (compareOp .NotEq v u) Q E s := by
  obtain ⟨as, ra⟩ := kqd_in N 6 H1 hk
  obtain ⟨bs, rb⟩ := kqd_in N 6 H2 hk
  have la := kqd_lay 6 d hk
  have e : PyData.eqv (kqdP d) (kqdP d) = true := (kqd_eqv 6 d d 6 hk hk).mpr rfl
  have sh : SeqAt.shaped (kqdP d) = true := by unfold SeqAt.shaped; rw [la.1, Bool.true_and]; exact decide_eq_true (Nat.le_trans la.2 (by decide))
  exact ne_dataH ra rb sh sh hu (by rw [e]; exact h)
end
section
variable {w : World} {mean : ExcName → Option Value} {mg mb : Str → Option Value}
theorem c_bad (o : List UInt8) (t : Tok) (news : Led) (ho : o.length ≤ 900) (hb : Bad o) : CTR w mean mg mb 184 [.bytes o.toArray t] 560 news (fun _ _ => False) (fun _ => True) news := by
  by_cases h4 : o[4]? = some 44
  · by_cases h5 : hex4 (sum1 (o.drop 5)) = o.take 4
    · obtain ⟨k, hk⟩ := hb ⟨h4, h5⟩
      refine (c_read3 o t news ho h4 h5 ?_ true ?_).mono ?_ fun _ _ => trivial
      · intro e
        unfold rd at hk
        rw [e] at hk
        cases hk
      · intro t q e
        rw [hk] at e
        cases e
      · rintro _ _ ⟨t, q, _, e, -⟩
        rw [hk] at e
        cases e
    · exact (c_read2 o t news ho h4 h5).mono (fun _ _ h => h) fun _ _ => trivial
  · exact (c_read1 o t news ho h4).mono (fun _ _ h => h) fun _ _ => trivial
theorem CT0.mono {f : Addr} {args : List Value} {lim : Nat} {news : Led} {K K' : Value → Led → Prop} (C : CT0 w mean mg mb f args lim news K) (h : ∀ r n, K r n → K' r n) : CT0 w mean mg mb f args lim news K' :=
  fun _ _ _ _ _ _ _ _ _ _ _ _ _ _ _ B F X N T hk hd hu hQ => C _ _ _ _ _ _ _ _ _ _ _ _ _ _ _ B F X N T hk hd hu (fun r n h' tk F' N' k => hQ r n h' tk F' N' (h r n k))
theorem c_refbad (o : List UInt8) (t : Tok) (news : Led) (ho : o.length ≤ 900) (hb : Bad o) : CT0 w mean mg mb 235 [.bytes o.toArray t] 590 news (fun r n' => (∃ n u, r = .int n u) ∧ n' = news) :=
  (c_refused o t news _ _ (c_bad o t news ho hb) fun _ _ h => h.elim).mono fun r n' h => by
    obtain ⟨⟨rfl, _, _, z⟩ | ⟨n, u, rfl, -⟩, rfl⟩ := h
    · exact z.elim
    · exact ⟨⟨n, u, rfl⟩, rfl⟩
/-- what the law knows of its tree -/
structure Law (t : T) : Prop where
  nums : t.Nums
  tiles : t.Tiles 0 0
  wd : t.wd = 12
  leafs : t.leafs ≤ 13
  fuel : t.fuel ≤ 25
  dep : t.dep ≤ 4
  ok : kqdOk 6 t.dat = true
  nodup : t.panes.Nodup
  one : ∀ w h x y n, t = .pane w h x y n → n < 10
theorem law_tree {row : Bool} {k : Int} {t : T} (H : Tr 2 row 12 7 0 0 0 t k) : Law t := by
  obtain ⟨a, b, -, d⟩ := H.nums (by decide) (by decide) (by decide) (by decide) (by decide) (by decide) (by decide) (by decide)
  obtain ⟨e, f, g⟩ := H.bds
  exact ⟨a, d, b, e, f, g, H.ok, H.panes.1, H.one (by decide)⟩
theorem Law.len {t : T} (H : Law t) : (text t.body).length ≤ 820 := by
  have := body_len t
  have := H.leafs
  rw [text_len]
  have := Le.body (t := t) (by omega)
  unfold Le at this
  omega
theorem c_good {t : T} (H : Law t) (u : Tok) (news : Led) : CTR w mean mg mb 184 [.bytes (text t.body).toArray u] 560 news (fun r n' => ∃ new, CellIn w new r t ∧ n' = new ++ news ∧ Apart new news) (fun _ => False) news := by
  obtain ⟨h1, h2⟩ := rd_text t H.nums H.fuel
  obtain ⟨h4, h5⟩ := text_ok t.body
  refine (c_read3 (text t.body) u news (Nat.le_trans H.len (by decide)) h4 h5 h2 true ?_).mono ?_ ?_
  · intro t' q e
    rw [h1] at e
    cases e
    have := H.leafs; have := H.dep
    exact ⟨by omega, by omega, H.nodup, fun v news hv => c_tiling t true (c_right t 0 0 H.nums H.tiles) (by omega) v news hv⟩
  · rintro r n' ⟨t', q, new, e, -, a, b, c⟩
    rw [h1] at e
    cases e
    exact ⟨new, a, b, c⟩
  · rintro n (⟨k, e, -⟩ | ⟨e, -⟩)
    · rw [h1] at e
      cases e
    · cases e
theorem wide_bad {t : T} (H : Law t) (hb : ∀ w h x y n, t ≠ .pane w h x y n) : ∀ (v : Value) (t1 t2 : Tok) (news : Led), CellIn w news v (t.wide 13) → CT w mean mg mb 113 [v, .int 0 t1, .int 0 t2] (20 + 20 * (t.wide 13).dep) news (fun r n' => r = .bool false ∧ n' = news) := by
  have hn := wide_nums (v := 13) H.nums (by unfold num; omega)
  have hw := H.wd
  have ht := H.tiles
  have hN := H.nums
  cases t with
  | pane w h x y n => exact absurd rfl (hb w h x y n)
  | two row wd hg x y a b =>
    simp only [T.wd] at hw
    subst hw
    obtain ⟨rfl, rfl, h1, h2, ht⟩ := ht
    cases row with
    | true =>
      obtain ⟨e1, e2, ea, eb, es⟩ := ht
      have es' : a.wd + b.wd + 1 = 12 := es
      intro v t1 t2 news hv
      have := c_box2 (w := w) (mean := mean) (mg := mg) (mb := mb) true 13 hg 0 0 a b true hn (by decide) h2 ⟨fun z => absurd e1 z, fun _ => ⟨c_right a _ _ hN.2.2.2.2.1 ea, fun z => absurd e2 z, fun _ => ⟨c_right b _ _ hN.2.2.2.2.2 eb, rfl⟩⟩⟩ v t1 t2 news hv
      rw [if_pos rfl] at this
      rw [show ([a.wd, b.wd].sum + 2 - 1 == (13 : Int)) = false from by
        simp only [List.sum_cons, List.sum_nil, beq_eq_false_iff_ne, ne_eq]
        omega] at this
      exact this
    | false =>
      obtain ⟨e1, -⟩ := ht
      exact c_two_bad 13 hg 0 0 a b hn (by decide) h2 (by rw [e1]; simp only [T.wd]; decide)
  | three row wd hg x y a b c =>
    simp only [T.wd] at hw
    subst hw
    obtain ⟨rfl, rfl, h1, h2, ht⟩ := ht
    cases row with
    | true =>
      obtain ⟨e1, e2, e3, ea, eb, ec, es⟩ := ht
      have es' : a.wd + b.wd + c.wd + 2 = 12 := es
      intro v t1 t2 news hv
      have := c_box3 (w := w) (mean := mean) (mg := mg) (mb := mb) true 13 hg 0 0 a b c true hn (by decide) h2 ⟨fun z => absurd e1 z, fun _ => ⟨c_right a _ _ hN.2.2.2.2.1 ea, fun z => absurd e2 z, fun _ => ⟨c_right b _ _ hN.2.2.2.2.2.1 eb, fun z => absurd e3 z, fun _ => ⟨c_right c _ _ hN.2.2.2.2.2.2 ec, rfl⟩⟩⟩⟩ v t1 t2 news hv
      rw [if_pos rfl] at this
      rw [show ([a.wd, b.wd, c.wd].sum + 3 - 1 == (13 : Int)) = false from by
        simp only [List.sum_cons, List.sum_nil, beq_eq_false_iff_ne, ne_eq]
        omega] at this
      exact this
    | false =>
      obtain ⟨e1, -⟩ := ht
      exact c_three_bad 13 hg 0 0 a b c hn (by decide) h2 (by rw [e1]; simp only [T.wd]; decide)
theorem c_broad {t : T} (H : Law t) (hb : ∀ w h x y n, t ≠ .pane w h x y n) (u : Tok) (news : Led) : CT0 w mean mg mb 235 [.bytes (text (t.wide 13).body).toArray u] 590 news (fun r n' => (∃ u, r = .int ((text (t.wide 13).body).length : Int) u) ∧ n' = news) := by
  have hn := wide_nums (v := 13) H.nums (by unfold num; omega)
  obtain ⟨s1, s2, s3, s4⟩ := wide_same t 13
  have hl := H.leafs; have hd := H.dep; have hf := H.fuel
  obtain ⟨h1, h2⟩ := rd_text (t.wide 13) hn (by omega)
  obtain ⟨h4, h5⟩ := text_ok (t.wide 13).body
  have hz : (text (t.wide 13).body).length ≤ 900 := by
    have := Le.body (t := t.wide 13) (by omega)
    unfold Le at this
    rw [text_len]
    omega
  refine (c_refused (text (t.wide 13).body) u news (fun _ _ => False) (fun n => n = (text (t.wide 13).body).length) ((c_read3 (text (t.wide 13).body) u news hz h4 h5 h2 false ?_).mono ?_ ?_) fun _ _ h => h.elim).mono ?_
  · intro t' q e
    rw [h1] at e
    cases e
    exact ⟨by omega, by omega, by rw [s4]; exact H.nodup, fun v news hv => c_tiling _ false (wide_bad H hb) (by omega) v news hv⟩
  · rintro r n' ⟨t', q, new, e, h, -⟩
    cases h
  · rintro n (⟨k, e, -⟩ | ⟨-, -, e⟩)
    · rw [h1] at e
      cases e
    · exact e
  · rintro r n' ⟨⟨rfl, _, _, z⟩ | ⟨n, u, rfl, rfl⟩, rfl⟩
    · exact z.elim
    · exact ⟨⟨u, rfl⟩, rfl⟩
end
end Mine

local macro_rules | `(tactic| k_qdec) => `(tactic| decide +kernel)

theorem Mine.pk_5_213 {h₀ h : Heap} {L : Addr} {a0 a1 a2 a3 a4 : Addr × Obj} {rest : List (Addr × Obj)} (N : News h₀ L h (a0 :: a1 :: a2 :: a3 :: a4 :: rest)) : News h₀ L h (a2 :: a1 :: a3 :: rest) := by
  intro p hp
  refine N p ?_
  simp only [List.mem_cons] at hp ⊢
  grind only
theorem Mine.pk_2_10 {h₀ h : Heap} {L : Addr} {a0 a1 : Addr × Obj} {rest : List (Addr × Obj)} (N : News h₀ L h (a0 :: a1 :: rest)) : News h₀ L h (a1 :: a0 :: rest) := by
  intro p hp
  refine N p ?_
  simp only [List.mem_cons] at hp ⊢
  grind only
namespace Mine
local macro_rules | `(tactic| omega) => `(tactic| lia)
theorem words_LW0 : True := by
  k_with_none
  k_with "exec If" => (k_here; (with_reducible refine wpAny_If ?_); (refine fold_Q1 ?_; intro qk8w))
  k_with "exec Assign" => (k_here; (refine wpAny_Assign_Name ?_); (refine fold_Q1 ?_; intro qk8w))
  k_with "exec Return some" => (k_here; (refine wpAny_Return_some ?_); (refine fold_Q1 ?_; intro qk8w))
  k_with "eval Name" => (k_here; name_kind "globalImplicit"; (fail_if_success (with_reducible show wpAny _ _ (eval _ (compEnvC _ _ _ _)) _ _ _)); k_dflt (first | (name_is_builtin; refine' nameX_B ?Fw9 ?Xw9 ?Tw9 ?ew9 ?vw9 ?nw9 ?_ ?aw9 ?bw9; (case Fw9 => k_asm); (case Xw9 => k_asm); (case Tw9 => k_asm); (case aw9 => rfl); (case bw9 => rfl); (case ew9 => k_is); (case vw9 => boot_fast); (case nw9 => decide); k_whole) | (refine' nameX_K ?Fw9 ?Xw9 ?Tw9 ?ew9 ?_ ?aw9 ?bw9; (case Fw9 => k_asm); (case Xw9 => k_asm); (case Tw9 => k_asm); (case aw9 => rfl); (case bw9 => rfl); (case ew9 => k_is); k_whole)))
  k_with "eval Name" => (k_here; name_kind "local"; (fail_if_success (with_reducible show wpAny _ _ (eval _ (compEnvC _ _ _ _)) _ _ _)); k_dflt (refine' nameX_L ?Fw9 ?vw9 ?_ ?aw9 ?bw9; (case Fw9 => k_asm); (case aw9 => rfl); (case bw9 => rfl); (case vw9 => rfl); k_whole))
  k_with "eval Attribute Name" => (k_here; k_dflt (refine' own_L ?Fw9 ?Xw9 ?vw9 ?Nw9 ?iw9 ?jw9 ?k4w9 ?k5w9 ?k6w9 ?k7w9 ?k8w9 ?k9w9 ?_ ?aw9 ?bw9 ?cw9; (case Fw9 => k_asm); (case Xw9 => k_asm); (case aw9 => rfl); (case bw9 => rfl); (case cw9 => exact rfl); (case vw9 => rfl); (case Nw9 => k_asm); (case iw9 => k_mem); (case jw9 => k_mem); (case k4w9 => k_is); (case k5w9 => k_is); (case k6w9 => k_is); (case k7w9 => k_is); (case k8w9 => k_get); (case k9w9 => k_handed); k_whole))
  k_with "getAttr ref" => (k_here; k_dflt (refine' get_own ?k1w9 ?k2w9 ?k3w9 ?k4w9 ?k5w9 ?k6w9 ?k7w9 ?k8w9 ?k9w9 ?_; (case k1w9 => k_asm); (case k2w9 => k_asm); (case k3w9 => k_inst); (case k4w9 => k_is); (case k5w9 => k_is); (case k6w9 => k_is); (case k7w9 => k_is); (case k8w9 => k_get); (case k9w9 => k_handed); k_whole))
  k_with "ite" => (first | with_reducible refine ite_tt ?_ | with_reducible refine ite_ff ?_ | with_reducible refine ite_True_then ?_)
  k_with "WhlIf" => (first | (refine WhlIf.yes (by (simp only [decide_eq_true_eq]; omega)) ?_) | (refine WhlIf.no (by (simp only [decide_eq_false_iff_not]; omega)) ?_))
  k_with "subscriptTail" => (k_here; (with_reducible show wpAny _ _ (subscriptTail _ (PySem.Expr.Slice _ _ none _) (Value.bytes (List.toArray _) _) (Value.ref _)) _ _ _); (with_reducible rename Fr _ _ _ _ => F'w); (with_reducible rename News _ _ _ _ => N'w); first | (refine bslice_ij (s := ⟨_, _, _, _, _⟩) F'w N'w (by omega) (by omega) (by omega) (by first | with_reducible assumption | exact rfl) ?_; intro h'w t'w k'w F'w N'w; (try k_sweep)) | (refine bslice_j (s := ⟨_, _, _, _, _⟩) F'w N'w (by omega) (by omega) (by first | with_reducible assumption | exact rfl) ?_; intro h'w t'w k'w F'w N'w; (try k_sweep)) | (refine bslice_i (s := ⟨_, _, _, _, _⟩) F'w N'w (by omega) (by omega) (by first | with_reducible assumption | exact rfl) ?_; intro h'w t'w k'w F'w N'w; (try k_sweep)))
  k_with "exec Raise some none" => (k_here; (with_reducible show wpAny _ _ (exec (Stmt.Raise (some (PySem.Expr.Call (PySem.Expr.Name _ _) [_] [] _)) none _) _) _ _ _); k_dflt (refine' Raise_bad ?Fw9 ?Xw9 ?Tw9 ?hw9 ?_ ?ew9 ?kw9 ?xw9; (case Fw9 => k_asm); (case Xw9 => k_asm); (case Tw9 => k_asm); (case hw9 => rfl); (case ew9 => rfl); (case kw9 => rfl); (case xw9 => rfl); k_whole))
  k_with "RaiseB" => (k_dflt (refine' raise_here ?Bw9 ?Fw9 ?Xw9 ?Nw9 ?Tw9 ?kw9 ?dw9 ?_; (case Bw9 => k_asm); (case Fw9 => k_asm); (case Xw9 => k_asm); (case Nw9 => k_asm); (case Tw9 => k_asm); (case kw9 => rfl); (case dw9 => ktr_room)); intro e9w dd9w tk9w k9w h9w R9w U9w)
  k_with "leaving ref" => (k_here; (refine' raise_next ?Kw9 ?Fw9 ?Rw9 ?Uw9 ?_; (case Rw9 => assumption); (case Kw9 => assumption); (case Uw9 => assumption); (case Fw9 => assumption)); intro h9w R9w U9w)
  k_with "compareOp NotIn bytes ref" => (k_here; k_dflt (refine' notin_signs ?Nw9 ?tw9 ?iw9 ?_; (case Nw9 => k_asm); (case tw9 => k_mem); (case iw9 => first | assumption | exact .cons .nil | exact .cons (.cons .nil) | exact .cons (.cons (.cons .nil))); k_whole))
  k_with "call ref" => (k_here; (with_reducible show wpAny _ _ (call (Value.ref _) _ _) _ _ _); (fail_if_success (with_reducible show wpAny _ _ (call (Value.ref 78) _ _) _ _ _)); (fail_if_success (with_reducible show wpAny _ _ (call (Value.ref 175) _ _) _ _ _)); refine stop_of ?_)
  k_with "UnrEnd" => (k_here; (refine' unr_keep ?Fw9 ?Nw9 ?ow9 ?_; (case Fw9 => assumption); (case Nw9 => k_asm); (case ow9 => exact fun p hp => Nat.ne_of_lt ((by assumption : ∀ p ∈ _, p.1 < _) p hp)); k_whole))
  k_with "exec While BoolOp" => (k_here; k_dflt (refine whl_start 100 ?_))
  k_with "execs cons" => (k_here; (try k_gentoks); (try (refine fold_Q ?_; intro qk9w ek9w)); (with_reducible refine wpAny_execs_cons ?_); (try dsimp only))
  k_with "storeName" => (k_here; k_dflt (refine' storeX_M ?Fw9 ?Nw9 ?_ ?aw9 ?bw9; (case Fw9 => k_asm); (case Nw9 => k_asm); (case aw9 => rfl); (case bw9 => rfl); k_whole; intro m9w h'w t9w F'w N'w; (try k_sweep); (try dsimp only)))
  k_with "storeName" => (k_here; (first | with_reducible refine tok_intA ?_ | with_reducible refine tok_intS ?_ | with_reducible refine tok_bytA ?_ | with_reducible refine tok_bytS ?_); intro t9w)
  k_with "call builtin:list.append" => (k_here; (first | with_reducible refine tok_appA ?_ | with_reducible refine tok_appS ?_); intro t9w)
  k_with "call ref" => (k_here; (with_reducible show wpAny _ _ (call (Value.ref 78) _ _) _ _ _); refine stop_of ?_)
  k_with "callWith ref" => (k_here; (with_reducible show wpAny _ _ (callWith _ (Value.ref _) _ (backTo _ (starEach [] _)) []) _ _ _); k_dflt (refine' callWith_K0 ?k1w9 ?k2w9 ?_; (case k1w9 => k_in); (case k2w9 => k_is); k_whole))
  k_with "exec While Name" => (k_here; refine stop_of ?_)
  k_with "subscriptTail" => (k_here; (with_reducible show wpAny _ _ (subscriptTail _ _ (Value.ref _) (Value.str _ _)) _ _ _); k_dflt (refine kda_item (knd := PySem.strKind _ _) (by k_asm) (by k_mem) (by assumption) (strKind_is _ _ _ _) (by rfl) ?_))
  k_with "setItem ref str" => (k_here; k_dflt (refine' kda_set (knd := PySem.strKind _ _) ?Fw9 ?Nw9 ?Uw9 ?dw9 (strKind_is _ _ _ _) ?zw9 ?_; (case Fw9 => k_asm); (case Nw9 => k_asm); (case Uw9 => k_updF); (case dw9 => assumption); (case zw9 => rw [sizeLine_eq]; exact Nat.le_of_ble_eq_true (by with_unfolding_all rfl))); intro h'w o'w F'w N'w hd'w; (try dsimp only at N'w))
  k_with "call builtin:len" => (k_here; k_dflt (refine i_len (by k_asm) (by k_mem) (by assumption) (by omega) ?_))
  k_with "exec For Name Name cons nil" => (k_here; (rename Fr _ _ _ _ => lF'w); (with_unfolding_all refine' For_invVF lF'w ?k1w9 ?k2w9 ?_; (case k1w9 => exact rfl); (case k2w9 => exact rfl); k_whole))
  k_with "pyIter ref" => (k_here; refine stop_of ?_)
  k_with "UnrEnd" => (k_here; refine stop_of ?_)
  k_with "call builtin:list.extend" => (k_here; refine stop_of ?_)
  k_with "call builtin:sum" => (k_here; refine stop_of ?_)
  k_with "storeName" => (k_here; k_dflt (refine' storeX_L ?Fw9 ?Nw9 ?_ ?aw9 ?bw9; (case Fw9 => k_asm); (case Nw9 => k_asm); (case aw9 => rfl); (case bw9 => rfl); k_whole; intro h'w F'w N'w; (try k_sweep)))
  trivial
section
theorem fm_bd (n : Int) : 0 ≤ n.fmod 1000000007 ∧ n.fmod 1000000007 < 1000000007 := ⟨Int.fmod_nonneg_of_pos _ (by decide), Int.fmod_lt_of_pos _ (by decide)⟩
theorem ints_dat {vs : List Value} {ns : List Int} (h : IntsAre vs ns) : DatAll [] vs (dints ns) := by
  induction h with
  | nil => exact .nil
  | cons _ _ _ ih => exact .cons (.int _ _) ih
theorem words_LW1 : True := by
  k_with "compareOp NotEq ref ref" => (k_here; refine stop_of ?_)
  k_with "subscriptTail" => (k_here; (with_reducible show wpAny _ _ (subscriptTail (PySem.Expr.List _ _) _ (Value.ref _) _) _ _ _); refine stop_of ?_)
  trivial
inductive Mk8 : Prop where | mk
inductive Mk9 : Prop where | mk
theorem words_LW2 : True := by
  k_with "call builtin:len" => ((with_reducible rename Mk9 => hM9w); k_here; refine stop_of ?_)
  k_with "compareOp Eq int int" => ((with_reducible rename Mk9 => hM9w); k_here; refine stop_of ?_)
  k_with "isTrue BoolOp" => ((with_reducible rename Mk8 => hM8w); k_here; refine stop_of ?_)
  trivial
theorem eq_same {prog : Program} {w : World} {A : Around} {Q E : Value → Shared → Prop} {s : Shared} {a b : Int} {t u : Tok} (e : a = b) (h : Q (.bool true) s) : wpAny (model prog w) A (compareOp .Eq (.int a t) (.int b u)) Q E s := by
  refine eq_int ?_
  rw [beq_iff_eq.mpr e]
  exact h
theorem dk_front {h₀ h : Heap} {L dk : Addr} {D : Obj} {new R : Led} (N : News h₀ L h (new ++ (dk, D) :: R)) (ap : Apart new ((dk, D) :: R)) (hr : ∀ q ∈ R, q.1 ≠ dk) : News h₀ L h ((dk, D) :: (new ++ R)) ∧ ∀ q ∈ new ++ R, q.1 ≠ dk := by
  refine ⟨fun q hq => N q ?_, fun q hq => ?_⟩
  · simp only [List.mem_cons, List.mem_append] at hq ⊢
    grind only
  · rcases List.mem_append.mp hq with hq | hq
    · exact ap q hq (dk, D) (.head _)
    · exact hr q hq
theorem CT0.use {w : World} {mean : ExcName → Option Value} {mg mb : Str → Option Value} {f : Addr} {args : List Value} {lim : Nat} {news : Led} {K : Value → Led → Prop} {dp un : Nat} {gd : Option (List Code)} {cn : Str} {cs : Scope} {a : Addr} {ccd : Value} {A₀ : Around} {base h₀ : Heap} {L : Addr} {m : Str → Option Value} {s : Shared} {Q E : Value → Shared → Prop}
    (C : CT0 w mean mg mb f args lim news K) (B : Below A₀ base [] h₀) (F : Fr h₀ L s.heap m) (X : (hd.heap_1 w.params).In h₀) (N : News h₀ L s.heap news) (T : Top vw LO mean mg mb h₀) (hk : cs.kind = .function) (hd : dp + lim ≤ 900) (hu : un + 10 * lim ≤ 9000)
    (hQ : ∀ r news' h' tk', Fr h₀ L h' m → News h₀ L h' news' → K r news' → Q r { s with heap := h', toks := tk' }) :
    wpAny (model PR w) (ktrTop dp un gd cn cs L a ccd [] []) (call (.ref f) args) Q E s := C _ _ _ _ _ _ _ _ _ _ _ _ _ _ _ B F X N T hk hd hu hQ
def T.kd : T → Str
  | .pane .. => Str.ofString "pane"
  | .two row .. => kindS row
  | .three row .. => kindS row
theorem kd_no {t : T} (h : (t.kd == Str.ofString "pane") = false) : ∀ w h x y n, t ≠ .pane w h x y n := by
  intro a b c d k e
  rw [e] at h
  have : (Str.ofString "pane" == Str.ofString "pane") = false := h
  exact absurd this (by decide)
theorem dec12 : dec 12 = [49, 50] := by decide
theorem dec13 : dec 13 = [49, 51] := by decide
theorem body_head {t : T} (h : t.wd = 12) : t.body = [49, 50] ++ t.body.drop 2 := by
  have := wide_body t t.wd
  have e : t.wide t.wd = t := by cases t <;> rfl
  rw [e, h, dec12] at this
  exact this
theorem wide_head {t : T} (h : t.wd = 12) : [49, 51] ++ t.body.drop 2 = (t.wide 13).body := by
  have := wide_body t 13
  rw [h, dec12, dec13] at this
  exact this.symm
theorem c_f12 {w : World} {mean : ExcName → Option Value} {mg mb : Str → Option Value} (t : Tok) (rest : Led) : CT w mean mg mb 201 [.int 12 t] 5 rest (fun r n' => ∃ u, r = .bytes [49, 50].toArray u ∧ n' = rest) := dec12 ▸ c_figs 12 t (by decide) (by decide) rest
theorem c_f13 {w : World} {mean : ExcName → Option Value} {mg mb : Str → Option Value} (t : Tok) (rest : Led) : CT w mean mg mb 201 [.int (12 + 1) t] 5 rest (fun r n' => ∃ u, r = .bytes [49, 51].toArray u ∧ n' = rest) := dec13 ▸ c_figs 13 t (by decide) (by decide) rest
theorem c_broad' {w : World} {mean : ExcName → Option Value} {mg mb : Str → Option Value} {t : T} (H : Law t) (hb : ∀ w h x y n, t ≠ .pane w h x y n) {o : List UInt8} (ho : o = text (t.wide 13).body) (u : Tok) (news : Led) : CT0 w mean mg mb 235 [.bytes o.toArray u] 590 news (fun r n' => (∃ u, r = .int (o.length : Int) u) ∧ n' = news) := by
  subst ho
  exact c_broad H hb u news
theorem dat_head {new : Led} {r : Value} {t : T} (H : DatIn new r t.dat) : ∃ a n k u v2 v3 v4 v5 v6, r = .ref a ∧ (a, ({ cls := .type "tuple", data := .seq [.str t.kd k, .int t.wd u, v2, v3, v4, v5, v6].toArray n } : Obj)) ∈ new := by
  have key : ∀ r, DatIn new r t.dat → ∃ a n k u v2 v3 v4 v5 v6, r = .ref a ∧ (a, ({ cls := .type "tuple", data := .seq [.str t.kd k, .int t.wd u, v2, v3, v4, v5, v6].toArray n } : Obj)) ∈ new := by
    cases t with
    | pane => exact d7_k fun a n _ _ k u _ _ _ _ _ hm _ _ _ => ⟨a, n, k, u, _, _, _, _, _, rfl, hm⟩
    | two => exact d7_k fun a n _ _ k u _ _ _ _ _ hm _ _ _ => ⟨a, n, k, u, _, _, _, _, _, rfl, hm⟩
    | three => exact d7_k fun a n _ _ k u _ _ _ _ _ hm _ _ _ => ⟨a, n, k, u, _, _, _, _, _, rfl, hm⟩
  exact key r H
theorem newcell_out {w : World} {t : T} {news : Led} {P : Value → Led → Prop} (k : ∀ new a, CellIn w new (.ref a) t → Apart new news → P (.ref a) (new ++ news)) : ∀ r n', (∃ new, CellIn w new r t ∧ n' = new ++ news ∧ Apart new news) → P r n' := by
  rintro r n' ⟨new, h, rfl, ha⟩
  obtain ⟨a, rfl⟩ := h.ref
  exact k new a h ha
theorem newdat_out {t : T} {news : Led} {P : Value → Led → Prop} (k : ∀ new a, DatIn new (.ref a) t.dat → Apart new news → P (.ref a) (new ++ news)) : ∀ r n', (∃ new, DatIn new r t.dat ∧ n' = new ++ news ∧ Apart new news) → P r n' := by
  rintro r n' ⟨new, h, rfl, ha⟩
  obtain ⟨a, rfl⟩ := dat_ref h
  exact k new a h ha
theorem law_holds : PySem.Challenge.rw_np0272_01.Holds := by
  refine Mine.hd ?_
  k_go0
  all_goals try k_fold
  k_steps
  rename IntsAre _ (List.take 24 _) => hi9
  rename (List.take 24 _).length = _ => hC9
  have hz9 := Nat.le_trans (Nat.le_of_eq hC9) (Nat.min_le_left _ _)
  unfold Stop
  (try (refine fold_Q ?_; intro qk9 ek9)); k_dflt (refine CT.use (c_deck _ _ _ _ _ (.head _) hi9 hz9) (by k_asm) (by k_asm) (by k_asm) (by k_asm) (by k_asm) (by first | assumption | exact rfl) (by first | exact room_of hdp (by first | exact Nat.le_of_ble_eq_true rfl | exact Nat.le_add_right_of_le (Nat.le_of_ble_eq_true rfl) | omega) | (simp only [depth_under_make, depth_under_kw, depth_in1, depth_deeper, depth_caller, ktrTop]; omega) | ktr_room) (by first | exact units_of hun (by first | exact Nat.le_of_ble_eq_true rfl | exact Nat.le_add_right_of_le (Nat.le_of_ble_eq_true rfl) | omega) | (simp only [units_in1, units_deeper, Around.mark_units, units_caller, ktrTop]; omega) | ((try simp only [units_in1, units_deeper, Around.mark_units, units_caller] at *); (try dsimp only [ktrTop] at *); omega)) ?_)
  refine use3 ?_
  intro h' tk' F' P9 rQ9 nQ9 kQ9
  obtain ⟨dk, cl, D, vs, kl, er9, en9, hD, hvs, hod, hol⟩ := kQ9
  refine eq_rn er9 en9 ?_
  clear er9 en9
  (try clear nQ9)
  (try clear rQ9)
  intro N'
  (try clear P9)
  replace hvs := ints_dat hvs
  rename List Int => ns0
  have hns : ∀ n ∈ (List.take 24 ns0).map (fun n => n.fmod 1000000007), 0 ≤ n ∧ n < 1000000007 := fun n hn => by
    obtain ⟨z, -, rfl⟩ := List.mem_map.mp hn
    exact fm_bd z
  have hlen : ((List.take 24 ns0).map (fun n => n.fmod 1000000007)).length ≤ 24 := by rw [List.length_map]; exact hz9
  generalize (List.take 24 ns0).map (fun n => n.fmod 1000000007) = ms at hvs hns hlen
  k_sweep
  k_steps
  rename Obj.IsDictOf _ _ _ => hPW
  rename (_ < _ ∧ _ < _ ∧ _ < _) => hlt1
  generalize h'.objs.size = pw at *
  have hpw : IsPw _ _ 0 := ⟨_, hPW⟩
  unfold Stop
  (try (refine fold_Q ?_; intro qk9 ek9)); k_dflt (refine CT.use (c_draw dk cl _ 0 2 _ vs ms kl _ hD ?hcl hvs hns hlen (by omega) (by omega) (by omega) (by omega) ?hr) (by k_asm) (by k_asm) (by k_asm) ((pk_5_213 (by k_asm))) (by k_asm) (by first | assumption | exact rfl) (by first | exact room_of hdp (by first | exact Nat.le_of_ble_eq_true rfl | exact Nat.le_add_right_of_le (Nat.le_of_ble_eq_true rfl) | omega) | (simp only [depth_under_make, depth_under_kw, depth_in1, depth_deeper, depth_caller, ktrTop]; omega) | ktr_room) (by first | exact units_of hun (by first | exact Nat.le_of_ble_eq_true rfl | exact Nat.le_add_right_of_le (Nat.le_of_ble_eq_true rfl) | omega) | (simp only [units_in1, units_deeper, Around.mark_units, units_caller, ktrTop]; omega) | ((try simp only [units_in1, units_deeper, Around.mark_units, units_caller] at *); (try dsimp only [ktrTop] at *); omega)) ?_)
  case hcl => exact .tail _ (.head _)
  case hr =>
    intro q hq
    simp only [List.mem_cons, List.not_mem_nil, or_false] at hq
    rcases hq with rfl | rfl
    · exact Nat.ne_of_gt hlt1.1
    · exact hod _ (.head _)
  refine use3 ?_
  intro h' tk' F' P9 rQ9 nQ9 kQ9
  obtain ⟨v1, u1, D1, er9, hv0, hv1, hD1, en9⟩ := kQ9
  refine eq_rn er9 en9 ?_
  clear er9 en9
  (try clear nQ9)
  (try clear rQ9)
  intro N'
  (try clear P9)
  k_sweep
  k_steps
  unfold Stop
  (try (refine fold_Q ?_; intro qk9 ek9)); k_dflt (refine CT.use (c_tree cl vs ms kl hvs hns hlen 2 dk pw _ _ _ 0 12 7 0 0 2 _ _ _ _ _ _ _ hD1 hpw ?hcl (by decide) (by decide) (by decide) (by decide) (by decide) (by decide) (by decide) (by decide) (by decide) (by decide) (by decide) (by decide) ?hr1 ?hr2 ?hne rfl) (by k_asm) (by k_asm) (by k_asm) (by k_asm) (by k_asm) (by first | assumption | exact rfl) (by first | exact room_of hdp (by first | exact Nat.le_of_ble_eq_true rfl | exact Nat.le_add_right_of_le (Nat.le_of_ble_eq_true rfl) | omega) | (simp only [depth_under_make, depth_under_kw, depth_in1, depth_deeper, depth_caller, ktrTop]; omega) | ktr_room) (by first | exact units_of hun (by first | exact Nat.le_of_ble_eq_true rfl | exact Nat.le_add_right_of_le (Nat.le_of_ble_eq_true rfl) | omega) | (simp only [units_in1, units_deeper, Around.mark_units, units_caller, ktrTop]; omega) | ((try simp only [units_in1, units_deeper, Around.mark_units, units_caller] at *); (try dsimp only [ktrTop] at *); omega)) ?_)
  case hcl => exact .head _
  case hr1 => exact fun q hq => by rw [List.mem_singleton.mp hq]; exact hod _ (.head _)
  case hr2 => exact fun q hq => by rw [List.mem_singleton.mp hq]; exact Nat.ne_of_lt hlt1.2.1
  case hne => exact Nat.ne_of_lt hlt1.1
  refine use3 ?_
  intro h' tk' F' P9
  refine TreeOut.out ?_
  intro t n1 at1 D2 W2 new ta ht htr hD2 ha0 ha1 hW2 hab N'
  (try clear P9)
  have HL := law_tree htr
  have hlf := HL.leafs
  have hdp := HL.dep
  have hnu := HL.nums
  have hcost : cost 2 = 38 := by decide
  rw [hcost] at ha1
  replace ht := ht.mono (news' := (pw, W2) :: (new ++ [(cl, W.listOf vs.toArray kl)])) fun p hp => .tail _ (List.mem_append.mpr (.inl hp))
  have hcl : (cl, W.listOf vs.toArray kl) ∈ (pw, W2) :: (new ++ [(cl, W.listOf vs.toArray kl)]) := .tail _ (List.mem_append.mpr (.inr (.head _)))
  have hdk : ∀ q ∈ (pw, W2) :: (new ++ [(cl, W.listOf vs.toArray kl)]), q.1 ≠ dk := by
    intro q hq
    rcases List.mem_cons.mp hq with rfl | hq
    · exact Nat.ne_of_gt hlt1.1
    · exact off_app hab (.head _) (fun q hq => by rw [List.mem_singleton.mp hq]; exact hod _ (.head _)) q hq
  generalize (pw, W2) :: (new ++ [(cl, W.listOf vs.toArray kl)]) = R at N' ht hcl hdk
  clear hab hlt1 hpw hod hol
  k_sweep
  k_steps
  unfold Stop
  (try (refine fold_Q ?_; intro qk9 ek9)); k_dflt (refine CT.use (c_body t _ _ (ht.mono ?hs) hnu (by omega)) (by k_asm) (by k_asm) (by k_asm) (by k_asm) (by k_asm) (by first | assumption | exact rfl) (by first | exact room_of hdp (by first | exact Nat.le_of_ble_eq_true rfl | exact Nat.le_add_right_of_le (Nat.le_of_ble_eq_true rfl) | omega) | (simp only [depth_under_make, depth_under_kw, depth_in1, depth_deeper, depth_caller, ktrTop]; omega) | ktr_room) (by first | exact units_of hun (by first | exact Nat.le_of_ble_eq_true rfl | exact Nat.le_add_right_of_le (Nat.le_of_ble_eq_true rfl) | omega) | (simp only [units_in1, units_deeper, Around.mark_units, units_caller, ktrTop]; omega) | ((try simp only [units_in1, units_deeper, Around.mark_units, units_caller] at *); (try dsimp only [ktrTop] at *); omega)) ?_)
  case hs => exact fun p hp => .tail _ hp
  refine use3 ?_
  intro h' tk' F' P9 rQ9 nQ9 kQ9
  obtain ⟨u2, er9, en9⟩ := kQ9
  refine eq_rn er9 en9 ?_
  clear er9 en9
  (try clear nQ9)
  (try clear rQ9)
  intro N'
  (try clear P9)
  k_sweep
  k_steps
  have hbl := Le.body (t := t) (by omega)
  unfold Stop
  (try (refine fold_Q ?_; intro qk9 ek9)); k_dflt (refine CT.use (c_text t.body _ _ (Nat.le_trans hbl (by decide))) (by k_asm) (by k_asm) (by k_asm) (by k_asm) (by k_asm) (by first | assumption | exact rfl) (by first | exact room_of hdp (by first | exact Nat.le_of_ble_eq_true rfl | exact Nat.le_add_right_of_le (Nat.le_of_ble_eq_true rfl) | omega) | (simp only [depth_under_make, depth_under_kw, depth_in1, depth_deeper, depth_caller, ktrTop]; omega) | ktr_room) (by first | exact units_of hun (by first | exact Nat.le_of_ble_eq_true rfl | exact Nat.le_add_right_of_le (Nat.le_of_ble_eq_true rfl) | omega) | (simp only [units_in1, units_deeper, Around.mark_units, units_caller, ktrTop]; omega) | ((try simp only [units_in1, units_deeper, Around.mark_units, units_caller] at *); (try dsimp only [ktrTop] at *); omega)) ?_)
  refine use3 ?_
  intro h' tk' F' P9 rQ9 nQ9 kQ9
  obtain ⟨u3, er9, en9⟩ := kQ9
  refine eq_rn er9 en9 ?_
  clear er9 en9
  (try clear nQ9)
  (try clear rQ9)
  intro N'
  (try clear P9)
  k_sweep
  k_steps
  unfold Stop
  (try (refine fold_Q ?_; intro qk9 ek9)); k_dflt (refine CT.use (c_lcell t _ _ (ht.mono ?hs)) (by k_asm) (by k_asm) (by k_asm) (by k_asm) (by k_asm) (by first | assumption | exact rfl) (by first | exact room_of hdp (by first | exact Nat.le_of_ble_eq_true rfl | exact Nat.le_add_right_of_le (Nat.le_of_ble_eq_true rfl) | omega) | (simp only [depth_under_make, depth_under_kw, depth_in1, depth_deeper, depth_caller, ktrTop]; omega) | ktr_room) (by first | exact units_of hun (by first | exact Nat.le_of_ble_eq_true rfl | exact Nat.le_add_right_of_le (Nat.le_of_ble_eq_true rfl) | omega) | (simp only [units_in1, units_deeper, Around.mark_units, units_caller, ktrTop]; omega) | ((try simp only [units_in1, units_deeper, Around.mark_units, units_caller] at *); (try dsimp only [ktrTop] at *); omega)) ?_)
  case hs => exact fun p hp => .tail _ hp
  refine use3 ?_
  intro h' tk' F' P9
  refine newcell_out ?_
  intro new ca hc hap9 N'
  (try clear P9)
  obtain ⟨hN9, hdk9⟩ := dk_front N' hap9 hdk
  clear hap9
  replace N' := hN9
  replace hdk := hdk9
  clear hN9 hdk9
  replace hcl := List.mem_append_right new hcl
  replace ht := ht.mono (news' := new ++ R) fun p hp => List.mem_append_right new hp
  replace hc := hc.mono (news' := new ++ R) fun p hp => List.mem_append.mpr (.inl hp)
  generalize new ++ R = R1 at N' ht hcl hdk hc
  k_sweep
  have hne : ((text t.body).toArray.toList != (text t.body).toArray.toList) = false := by simp
  k_steps
  unfold Stop
  (try (refine fold_Q ?_; intro qk9 ek9)); k_dflt (refine CT.use (c_octs t _ _ (hc.mono ?hs) hnu (by omega)) (by k_asm) (by k_asm) (by k_asm) (by k_asm) (by k_asm) (by first | assumption | exact rfl) (by first | exact room_of hdp (by first | exact Nat.le_of_ble_eq_true rfl | exact Nat.le_add_right_of_le (Nat.le_of_ble_eq_true rfl) | omega) | (simp only [depth_under_make, depth_under_kw, depth_in1, depth_deeper, depth_caller, ktrTop]; omega) | ktr_room) (by first | exact units_of hun (by first | exact Nat.le_of_ble_eq_true rfl | exact Nat.le_add_right_of_le (Nat.le_of_ble_eq_true rfl) | omega) | (simp only [units_in1, units_deeper, Around.mark_units, units_caller, ktrTop]; omega) | ((try simp only [units_in1, units_deeper, Around.mark_units, units_caller] at *); (try dsimp only [ktrTop] at *); omega)) ?_)
  case hs => exact fun p hp => .tail _ hp
  refine use3 ?_
  intro h' tk' F' P9 rQ9 nQ9 kQ9
  obtain ⟨u4, er9, en9⟩ := kQ9
  refine eq_rn er9 en9 ?_
  clear er9 en9
  (try clear nQ9)
  (try clear rQ9)
  intro N'
  (try clear P9)
  k_sweep
  k_steps
  clear hPW
  unfold Stop
  (try (refine fold_Q ?_; intro qk9 ek9)); k_dflt (refine CT.use (c_seen t _ _ (hc.mono ?hs)) (by k_asm) (by k_asm) (by k_asm) (by k_asm) (by k_asm) (by first | assumption | exact rfl) (by first | exact room_of hdp (by first | exact Nat.le_of_ble_eq_true rfl | exact Nat.le_add_right_of_le (Nat.le_of_ble_eq_true rfl) | omega) | (simp only [depth_under_make, depth_under_kw, depth_in1, depth_deeper, depth_caller, ktrTop]; omega) | ktr_room) (by first | exact units_of hun (by first | exact Nat.le_of_ble_eq_true rfl | exact Nat.le_add_right_of_le (Nat.le_of_ble_eq_true rfl) | omega) | (simp only [units_in1, units_deeper, Around.mark_units, units_caller, ktrTop]; omega) | ((try simp only [units_in1, units_deeper, Around.mark_units, units_caller] at *); (try dsimp only [ktrTop] at *); omega)) ?_)
  case hs => exact fun p hp => .tail _ hp
  refine use3 ?_
  intro h' tk' F' P9
  refine newdat_out ?_
  intro new sa hs hap9 N'
  (try clear P9)
  obtain ⟨hN9, hdk9⟩ := dk_front N' hap9 hdk
  clear hap9
  replace N' := hN9
  replace hdk := hdk9
  clear hN9 hdk9
  replace hcl := List.mem_append_right new hcl
  replace ht := ht.mono (news' := new ++ R1) fun p hp => List.mem_append_right new hp
  replace hc := hc.mono (news' := new ++ R1) fun p hp => List.mem_append_right new hp
  replace hs := hs.mono (news' := new ++ R1) fun p hp => List.mem_append.mpr (.inl hp)
  generalize new ++ R1 = R2 at N' ht hcl hdk hc hs
  k_sweep
  k_steps
  unfold Stop
  refine dat_ne (by k_asm) (hs.mono fun p hp => .tail _ hp) (ht.mono fun p hp => .tail _ hp) HL.ok (by rw [units_deeper, units_caller, cLine_is]; decide) ?_
  clear hs
  k_steps
  unfold Stop
  (try (refine fold_Q ?_; intro qk9 ek9)); k_dflt (refine CTR.use (c_good HL _ _) (by k_asm) (by k_asm) (by k_asm) (by k_asm) (by k_asm) (by first | assumption | exact rfl) (by first | exact room_of hdp (by first | exact Nat.le_of_ble_eq_true rfl | exact Nat.le_add_right_of_le (Nat.le_of_ble_eq_true rfl) | omega) | (simp only [depth_under_make, depth_under_kw, depth_in1, depth_deeper, depth_caller, ktrTop]; omega) | ktr_room) (by first | exact units_of hun (by first | exact Nat.le_of_ble_eq_true rfl | exact Nat.le_add_right_of_le (Nat.le_of_ble_eq_true rfl) | omega) | (simp only [units_in1, units_deeper, Around.mark_units, units_caller, ktrTop]; omega) | ((try simp only [units_in1, units_deeper, Around.mark_units, units_caller] at *); (try dsimp only [ktrTop] at *); omega)) ?_ ?_)
  rotate_left
  · rintro e9 dd9 gg9 tk9 n9 u9 nr9 h9 k9 hk9
    exact hk9.elim
  refine use3 ?_
  intro h' tk' F' P9
  refine newcell_out ?_
  clear hc
  intro new ba hc hap9 N'
  (try clear P9)
  obtain ⟨hN9, hdk9⟩ := dk_front N' hap9 hdk
  clear hap9
  replace N' := hN9
  replace hdk := hdk9
  clear hN9 hdk9
  replace hcl := List.mem_append_right new hcl
  replace ht := ht.mono (news' := new ++ R2) fun p hp => List.mem_append_right new hp
  replace hc := hc.mono (news' := new ++ R2) fun p hp => List.mem_append.mpr (.inl hp)
  generalize new ++ R2 = R3 at N' ht hcl hdk hc
  k_sweep
  k_steps
  unfold Stop
  (try (refine fold_Q ?_; intro qk9 ek9)); k_dflt (refine CT.use (c_seen t _ _ (hc.mono ?hs)) (by k_asm) (by k_asm) (by k_asm) (by k_asm) (by k_asm) (by first | assumption | exact rfl) (by first | exact room_of hdp (by first | exact Nat.le_of_ble_eq_true rfl | exact Nat.le_add_right_of_le (Nat.le_of_ble_eq_true rfl) | omega) | (simp only [depth_under_make, depth_under_kw, depth_in1, depth_deeper, depth_caller, ktrTop]; omega) | ktr_room) (by first | exact units_of hun (by first | exact Nat.le_of_ble_eq_true rfl | exact Nat.le_add_right_of_le (Nat.le_of_ble_eq_true rfl) | omega) | (simp only [units_in1, units_deeper, Around.mark_units, units_caller, ktrTop]; omega) | ((try simp only [units_in1, units_deeper, Around.mark_units, units_caller] at *); (try dsimp only [ktrTop] at *); omega)) ?_)
  case hs => exact fun p hp => .tail _ hp
  refine use3 ?_
  intro h' tk' F' P9
  refine newdat_out ?_
  intro new sa hs hap9 N'
  (try clear P9)
  obtain ⟨hN9, hdk9⟩ := dk_front N' hap9 hdk
  clear hap9
  replace N' := hN9
  replace hdk := hdk9
  clear hN9 hdk9
  replace hcl := List.mem_append_right new hcl
  replace ht := ht.mono (news' := new ++ R3) fun p hp => List.mem_append_right new hp
  replace hc := hc.mono (news' := new ++ R3) fun p hp => List.mem_append_right new hp
  replace hs := hs.mono (news' := new ++ R3) fun p hp => List.mem_append.mpr (.inl hp)
  generalize new ++ R3 = R4 at N' ht hcl hdk hc hs
  k_sweep
  k_steps
  unfold Stop
  refine dat_ne (by k_asm) (hs.mono fun p hp => .tail _ hp) (ht.mono fun p hp => .tail _ hp) HL.ok (by rw [units_deeper, units_caller, cLine_is]; decide) ?_
  clear hs
  k_steps
  unfold Stop
  (try (refine fold_Q ?_; intro qk9 ek9)); k_dflt (refine CT.use (c_octs t _ _ (hc.mono ?hs) hnu (by omega)) (by k_asm) (by k_asm) (by k_asm) (by k_asm) (by k_asm) (by first | assumption | exact rfl) (by first | exact room_of hdp (by first | exact Nat.le_of_ble_eq_true rfl | exact Nat.le_add_right_of_le (Nat.le_of_ble_eq_true rfl) | omega) | (simp only [depth_under_make, depth_under_kw, depth_in1, depth_deeper, depth_caller, ktrTop]; omega) | ktr_room) (by first | exact units_of hun (by first | exact Nat.le_of_ble_eq_true rfl | exact Nat.le_add_right_of_le (Nat.le_of_ble_eq_true rfl) | omega) | (simp only [units_in1, units_deeper, Around.mark_units, units_caller, ktrTop]; omega) | ((try simp only [units_in1, units_deeper, Around.mark_units, units_caller] at *); (try dsimp only [ktrTop] at *); omega)) ?_)
  case hs => exact fun p hp => .tail _ hp
  refine use3 ?_
  intro h' tk' F' P9 rQ9 nQ9 kQ9
  obtain ⟨u4, er9, en9⟩ := kQ9
  refine eq_rn er9 en9 ?_
  clear er9 en9
  (try clear nQ9)
  (try clear rQ9)
  intro N'
  (try clear P9)
  have hOl := HL.len
  have hO5 := text_len t.body
  have hOm := rd_more t hnu HL.fuel
  have hOc := rd_cut t hnu HL.fuel HL.one
  have hOt := turned_bad t.body
  generalize text t.body = O at *
  clear hbl
  k_sweep
  k_steps
  clear hne hC9 hz9 hD1
  have hsz : ((O.toArray.size : Nat) : Int) = (O.length : Int) := by rw [List.size_toArray]
  unfold Stop
  (try (refine fold_Q ?_; intro qk9 ek9)); k_dflt (refine CT.use (c_draw dk cl _ at1 _ _ vs ms kl _ hD2 ?hcl hvs hns hlen (by omega) (by omega) (by omega) (by omega) hdk) (by k_asm) (by k_asm) (by k_asm) (by k_asm) (by k_asm) (by first | assumption | exact rfl) (by first | exact room_of hdp (by first | exact Nat.le_of_ble_eq_true rfl | exact Nat.le_add_right_of_le (Nat.le_of_ble_eq_true rfl) | omega) | (simp only [depth_under_make, depth_under_kw, depth_in1, depth_deeper, depth_caller, ktrTop]; omega) | ktr_room) (by first | exact units_of hun (by first | exact Nat.le_of_ble_eq_true rfl | exact Nat.le_add_right_of_le (Nat.le_of_ble_eq_true rfl) | omega) | (simp only [units_in1, units_deeper, Around.mark_units, units_caller, ktrTop]; omega) | ((try simp only [units_in1, units_deeper, Around.mark_units, units_caller] at *); (try dsimp only [ktrTop] at *); omega)) ?_)
  case hcl => exact hcl
  refine use3 ?_
  intro h' tk' F' P9 rQ9 nQ9 kQ9
  obtain ⟨kk, u5, D3, er9, hk0, hk1, hD3, en9⟩ := kQ9
  refine eq_rn er9 en9 ?_
  clear er9 en9
  (try clear nQ9)
  (try clear rQ9)
  intro N'
  (try clear P9)
  k_sweep
  k_steps
  unfold Stop
  (try (refine fold_Q ?_; intro qk9 ek9)); k_dflt (refine CT.use (c_draw dk cl _ (at1 + 1) 6 _ vs ms kl _ hD3 ?hcl hvs hns hlen (by omega) (by omega) (by omega) (by omega) ?hr) (by k_asm) (by k_asm) (by k_asm) ((pk_2_10 (by k_asm))) (by k_asm) (by first | assumption | exact rfl) (by first | exact room_of hdp (by first | exact Nat.le_of_ble_eq_true rfl | exact Nat.le_add_right_of_le (Nat.le_of_ble_eq_true rfl) | omega) | (simp only [depth_under_make, depth_under_kw, depth_in1, depth_deeper, depth_caller, ktrTop]; omega) | ktr_room) (by first | exact units_of hun (by first | exact Nat.le_of_ble_eq_true rfl | exact Nat.le_add_right_of_le (Nat.le_of_ble_eq_true rfl) | omega) | (simp only [units_in1, units_deeper, Around.mark_units, units_caller, ktrTop]; omega) | ((try simp only [units_in1, units_deeper, Around.mark_units, units_caller] at *); (try dsimp only [ktrTop] at *); omega)) ?_)
  case hcl => exact .tail _ hcl
  case hr =>
    intro q hq
    rcases List.mem_cons.mp hq with rfl | hq
    · k_ne
    · exact hdk q hq
  refine use3 ?_
  intro h' tk' F' P9 rQ9 nQ9 kQ9
  obtain ⟨kj, u6, D4, er9, hj0, hj1, hD4, en9⟩ := kQ9
  refine eq_rn er9 en9 ?_
  clear er9 en9
  (try clear nQ9)
  (try clear rQ9)
  intro N'
  (try clear P9)
  k_sweep
  k_steps
  unfold Stop
  k_dflt (refine kd_item (L9 := []) (ds := [.bytes #[49], .bytes #[97], .bytes #[125], .bytes #[44], .bytes #[120], .bytes #[48]]) (by k_asm) (.tail _ (.head _)) (.cons (.bytes _ _) (.cons (.bytes _ _) (.cons (.bytes _ _) (.cons (.bytes _ _) (.cons (.bytes _ _) (.cons (.bytes _ _) .nil)))))) hj0 hj1 (by omega) ?_)
  intro v d _ hm hD9
  have hv : ∃ (c : UInt8) (u : Tok), v = .bytes [c].toArray u := by
    simp only [List.mem_cons, List.not_mem_nil, or_false] at hm
    rcases hm with rfl | rfl | rfl | rfl | rfl | rfl <;> (cases hD9; exact ⟨_, _, rfl⟩)
  obtain ⟨sg, u7, rfl⟩ := hv
  clear hm hD9
  rw [hsz] at hk1
  replace N' := drop1' (drop1' N')
  clear hcl hdk hD4 hD3 hD2 hj0 hj1
  k_steps
  clear hvs htr hW2 hc hi9 hv0 hv1 ha0 ha1 hcost
  have hT1 : Le (O.take kk.toNat) 820 := by unfold Le; rw [List.length_take]; omega
  have hT3 : Le (O.drop (kk + 1).toNat) 820 := by unfold Le; rw [List.length_drop]; omega
  refine bytes_add_L hT1 (Le.one sg) (by decide) ?_
  intro t' k'
  k_steps
  refine bytes_add_L (hT1.app (Le.one sg)) hT3 (by decide) ?_
  intro t' k'
  have hOle : Le O 820 := hOl
  obtain ⟨_, _, _, _, _, _, _, _, _, e8, hm8⟩ := dat_head ht
  cases e8
  rw [HL.wd] at hm8
  have hb2 := body_head HL.wd
  have hb3 : 2 ≤ t.body.length := by rw [hb2]; simp
  have hs2 : (([49, 50] : List UInt8).toArray.size : Int) = 2 := rfl
  have hM8 : Mk8 := .mk
  k_steps
  rename Mk8 => hM8
  clear hM8
  unfold Stop
  refine join_test (by assumption) (by assumption) ?_ ?_
  · k_steps
    · rename (_ != _) = true => hne9
      have e9 : (kk + 1).toNat = kk.toNat + 1 := by omega
      unfold Stop
      (try (refine fold_Q ?_; intro qk9 ek9)); k_dflt (refine CT0.use (c_refbad _ _ _ ?hl ?hb) (by k_asm) (by k_asm) (by k_asm) (by k_asm) (by k_asm) (by first | assumption | exact rfl) (by first | exact room_of hdp (by first | exact Nat.le_of_ble_eq_true rfl | exact Nat.le_add_right_of_le (Nat.le_of_ble_eq_true rfl) | omega) | (simp only [depth_under_make, depth_under_kw, depth_in1, depth_deeper, depth_caller, ktrTop]; omega) | ktr_room) (by first | exact units_of hun (by first | exact Nat.le_of_ble_eq_true rfl | exact Nat.le_add_right_of_le (Nat.le_of_ble_eq_true rfl) | omega) | (simp only [units_in1, units_deeper, Around.mark_units, units_caller, ktrTop]; omega) | ((try simp only [units_in1, units_deeper, Around.mark_units, units_caller] at *); (try dsimp only [ktrTop] at *); omega)) ?_)
      case hl => simp only [List.length_append, List.length_take, List.length_drop, List.length_cons, List.length_nil]; omega
      case hb =>
        rw [e9] at hne9 ⊢
        exact fun h => absurd h (hOt kk.toNat sg (by omega) (by simpa using hne9))
      refine use3 ?_
      intro h' tk' F' P9 rQ9 nQ9 kQ9
      obtain ⟨⟨_, _, rfl⟩, en9⟩ := kQ9
      refine eq_n en9 ?_
      clear en9
      (try clear nQ9)
      (try clear rQ9)
      intro N'
      (try clear P9)
      k_sweep
      k_steps
      exact JQ.mk (by assumption) (by assumption)
    · skip
      exact JQ.mk (by assumption) (by assumption)
  intro h' tk' F' N'
  k_sweep
  k_steps
  unfold Stop
  (try (refine fold_Q ?_; intro qk9 ek9)); k_dflt (refine CT0.use (c_refbad _ _ _ ?hl (hOc kk.toNat (by omega))) (by k_asm) (by k_asm) (by k_asm) (by k_asm) (by k_asm) (by first | assumption | exact rfl) (by first | exact room_of hdp (by first | exact Nat.le_of_ble_eq_true rfl | exact Nat.le_add_right_of_le (Nat.le_of_ble_eq_true rfl) | omega) | (simp only [depth_under_make, depth_under_kw, depth_in1, depth_deeper, depth_caller, ktrTop]; omega) | ktr_room) (by first | exact units_of hun (by first | exact Nat.le_of_ble_eq_true rfl | exact Nat.le_add_right_of_le (Nat.le_of_ble_eq_true rfl) | omega) | (simp only [units_in1, units_deeper, Around.mark_units, units_caller, ktrTop]; omega) | ((try simp only [units_in1, units_deeper, Around.mark_units, units_caller] at *); (try dsimp only [ktrTop] at *); omega)) ?_)
  case hl => rw [List.length_take]; omega
  refine use3 ?_
  intro h' tk' F' P9 rQ9 nQ9 kQ9
  obtain ⟨⟨_, _, rfl⟩, en9⟩ := kQ9
  refine eq_n en9 ?_
  clear en9
  (try clear nQ9)
  (try clear rQ9)
  intro N'
  (try clear P9)
  k_sweep
  k_steps
  refine bytes_add_L hOle (Le.one 44) (by decide) ?_
  intro t' k'
  k_steps
  unfold Stop
  (try (refine fold_Q ?_; intro qk9 ek9)); k_dflt (refine CT0.use (c_refbad _ _ _ ?hl hOm) (by k_asm) (by k_asm) (by k_asm) (by k_asm) (by k_asm) (by first | assumption | exact rfl) (by first | exact room_of hdp (by first | exact Nat.le_of_ble_eq_true rfl | exact Nat.le_add_right_of_le (Nat.le_of_ble_eq_true rfl) | omega) | (simp only [depth_under_make, depth_under_kw, depth_in1, depth_deeper, depth_caller, ktrTop]; omega) | ktr_room) (by first | exact units_of hun (by first | exact Nat.le_of_ble_eq_true rfl | exact Nat.le_add_right_of_le (Nat.le_of_ble_eq_true rfl) | omega) | (simp only [units_in1, units_deeper, Around.mark_units, units_caller, ktrTop]; omega) | ((try simp only [units_in1, units_deeper, Around.mark_units, units_caller] at *); (try dsimp only [ktrTop] at *); omega)) ?_)
  case hl => exact Nat.le_trans (hOle.app (Le.one 44)) (by decide)
  refine use3 ?_
  intro h' tk' F' P9 rQ9 nQ9 kQ9
  obtain ⟨⟨_, _, rfl⟩, en9⟩ := kQ9
  refine eq_n en9 ?_
  clear en9
  (try clear nQ9)
  (try clear rQ9)
  intro N'
  (try clear P9)
  k_sweep
  k_steps
  rename (_ == Str.ofString "pane") = false => hkd
  unfold Stop
  (try (refine fold_Q ?_; intro qk9 ek9)); k_dflt (refine CT.use (c_f13 _ _) (by k_asm) (by k_asm) (by k_asm) (by k_asm) (by k_asm) (by first | assumption | exact rfl) (by first | exact room_of hdp (by first | exact Nat.le_of_ble_eq_true rfl | exact Nat.le_add_right_of_le (Nat.le_of_ble_eq_true rfl) | omega) | (simp only [depth_under_make, depth_under_kw, depth_in1, depth_deeper, depth_caller, ktrTop]; omega) | ktr_room) (by first | exact units_of hun (by first | exact Nat.le_of_ble_eq_true rfl | exact Nat.le_add_right_of_le (Nat.le_of_ble_eq_true rfl) | omega) | (simp only [units_in1, units_deeper, Around.mark_units, units_caller, ktrTop]; omega) | ((try simp only [units_in1, units_deeper, Around.mark_units, units_caller] at *); (try dsimp only [ktrTop] at *); omega)) ?_)
  refine use3 ?_
  intro h' tk' F' P9 rQ9 nQ9 kQ9
  obtain ⟨_, er9, en9⟩ := kQ9
  refine eq_rn er9 en9 ?_
  clear er9 en9
  (try clear nQ9)
  (try clear rQ9)
  intro N'
  (try clear P9)
  k_sweep
  k_steps
  unfold Stop
  (try (refine fold_Q ?_; intro qk9 ek9)); k_dflt (refine CT.use (c_f12 _ _) (by k_asm) (by k_asm) (by k_asm) (by k_asm) (by k_asm) (by first | assumption | exact rfl) (by first | exact room_of hdp (by first | exact Nat.le_of_ble_eq_true rfl | exact Nat.le_add_right_of_le (Nat.le_of_ble_eq_true rfl) | omega) | (simp only [depth_under_make, depth_under_kw, depth_in1, depth_deeper, depth_caller, ktrTop]; omega) | ktr_room) (by first | exact units_of hun (by first | exact Nat.le_of_ble_eq_true rfl | exact Nat.le_add_right_of_le (Nat.le_of_ble_eq_true rfl) | omega) | (simp only [units_in1, units_deeper, Around.mark_units, units_caller, ktrTop]; omega) | ((try simp only [units_in1, units_deeper, Around.mark_units, units_caller] at *); (try dsimp only [ktrTop] at *); omega)) ?_)
  refine use3 ?_
  intro h' tk' F' P9 rQ9 nQ9 kQ9
  obtain ⟨_, er9, en9⟩ := kQ9
  refine eq_rn er9 en9 ?_
  clear er9 en9
  (try clear nQ9)
  (try clear rQ9)
  intro N'
  (try clear P9)
  k_sweep
  k_steps
  have hwl : (t.wide 13).body.length ≤ 900 := by
    rw [← wide_head HL.wd]
    simp only [List.length_append, List.length_cons, List.length_nil, List.length_drop]
    omega
  have hT9 : Le (t.body.drop 2) 815 := by
    unfold Le
    rw [List.length_drop]
    omega
  refine bytes_add_L (b := [49, 51]) (c := t.body.drop 2) (n := 2) (m := 815) (Nat.le_refl 2) hT9 (by decide) ?_
  intro t' k'
  obtain ⟨B9, hB9⟩ : ∃ B9, Stop (B9 = (t.wide 13).body) := ⟨_, rfl⟩
  rw [wide_head HL.wd, ← (show B9 = (t.wide 13).body from hB9)]
  replace hwl : B9.length ≤ 900 := by rw [show B9 = (t.wide 13).body from hB9]; exact hwl
  clear hb2 hb3 hT9 hOc hOt hOm hs2 hnu hlf
  k_steps
  unfold Stop
  (try (refine fold_Q ?_; intro qk9 ek9)); k_dflt (refine CT.use (c_text B9 _ _ hwl) (by k_asm) (by k_asm) (by k_asm) (by k_asm) (by k_asm) (by first | assumption | exact rfl) (by first | exact room_of hdp (by first | exact Nat.le_of_ble_eq_true rfl | exact Nat.le_add_right_of_le (Nat.le_of_ble_eq_true rfl) | omega) | (simp only [depth_under_make, depth_under_kw, depth_in1, depth_deeper, depth_caller, ktrTop]; omega) | ktr_room) (by first | exact units_of hun (by first | exact Nat.le_of_ble_eq_true rfl | exact Nat.le_add_right_of_le (Nat.le_of_ble_eq_true rfl) | omega) | (simp only [units_in1, units_deeper, Around.mark_units, units_caller, ktrTop]; omega) | ((try simp only [units_in1, units_deeper, Around.mark_units, units_caller] at *); (try dsimp only [ktrTop] at *); omega)) ?_)
  refine use3 ?_
  intro h' tk' F' P9 rQ9 nQ9 kQ9
  obtain ⟨_, er9, en9⟩ := kQ9
  refine eq_rn er9 en9 ?_
  clear er9 en9
  (try clear nQ9)
  (try clear rQ9)
  intro N'
  (try clear P9)
  k_sweep
  obtain ⟨W9, hW9⟩ : ∃ W9, Stop (W9 = text B9) := ⟨_, rfl⟩
  rw [← (show W9 = text B9 from hW9)]
  k_steps
  unfold Stop
  (try (refine fold_Q ?_; intro qk9 ek9)); k_dflt (refine CT0.use (c_broad' HL (kd_no hkd) (Eq.trans hW9 (congrArg text hB9)) _ _) (by k_asm) (by k_asm) (by k_asm) (by k_asm) (by k_asm) (by first | assumption | exact rfl) (by first | exact room_of hdp (by first | exact Nat.le_of_ble_eq_true rfl | exact Nat.le_add_right_of_le (Nat.le_of_ble_eq_true rfl) | omega) | (simp only [depth_under_make, depth_under_kw, depth_in1, depth_deeper, depth_caller, ktrTop]; omega) | ktr_room) (by first | exact units_of hun (by first | exact Nat.le_of_ble_eq_true rfl | exact Nat.le_add_right_of_le (Nat.le_of_ble_eq_true rfl) | omega) | (simp only [units_in1, units_deeper, Around.mark_units, units_caller, ktrTop]; omega) | ((try simp only [units_in1, units_deeper, Around.mark_units, units_caller] at *); (try dsimp only [ktrTop] at *); omega)) ?_)
  refine use3 ?_
  intro h' tk' F' P9 rQ9 nQ9 kQ9
  obtain ⟨⟨_, rfl⟩, en9⟩ := kQ9
  refine eq_n en9 ?_
  clear en9
  (try clear nQ9)
  (try clear rQ9)
  intro N'
  (try clear P9)
  k_sweep
  have hsz2 : W9.toArray.size ≤ 1099511627776 := by
    rw [List.size_toArray, show W9 = text B9 from hW9, text_len]
    omega
  clear hW9 hB9 hwl HL hkd hOl hO5 hsz hk0 hk1 hm8 hT1 hT3 hOle ht hns hlen
  have hM9 : Mk9 := .mk
  k_steps
  unfold Stop
  refine len_bytes hsz2 ?_
  k_steps
  unfold Stop
  refine eq_same (by rw [List.size_toArray]) ?_
  rename Mk9 => hM9
  clear hM9
  k_steps
end
end Mine

end

theorem PySem.Challenge.cw_np0272_01_holds : PySem.Challenge.rw_np0272_01.Holds := by
  exact Mine.law_holds
