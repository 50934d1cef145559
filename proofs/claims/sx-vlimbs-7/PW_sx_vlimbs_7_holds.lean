import PyProof.Rows.All
import Wide.All
import OpenK.AllK
import Wide.FinOn
import KE.KItem
import KE.KEqSeq
import KE.KRegrown
import KE.KTryDeep
import PySem.Challenge.RW_sx_vlimbs_7
set_option Elab.async false
section
set_option linter.unusedVariables false
open PySem PySem.W PyProof.Rows
set_option Elab.async false
set_option maxRecDepth 100000
set_option maxHeartbeats 8000000
namespace Mine
/-- the i-th statement of the text, a def -/
noncomputable def df (i : Nat) : DefRec := match PySem.Challenge.pw_sx_vlimbs_7.main.body[i]? with
  | some (.FunctionDef n a b _ _ _ sc _ _ pos) => ⟨n, a, b, sc, pos⟩
  | _ => ⟨"", ⟨[], [], none, [], [], none, []⟩, [], default, ⟨0, 0, 0, 0⟩⟩
def co (n : Str) (t line na a t' : Nat) : Obj := { cls := .type "code", data := .fields #[.str n t, .str n (t + 1), .str "/claim/cut.py" (t + 2), .int line 0, .int na 0, .int 0 0, .int 0 0, .int 3 0, .ref a, .bool true, .int 181 0, .ref (a + 1), .none, .ref (a + 2), .ref (a + 3), .ref (a + 4), .int t' 0, .int line 0, .str "/claim/cut.py" (t' + 1)] }
noncomputable def fo (i c : Nat) (m : Str) (t : Nat) : Obj := { cls := .type "function", data := .func (fnOf (df i).name (df i).name (df i).params (df i).body (df i).scope .none .none .none (.str m t) none (.ref c) .none) }
def tup (vs : List Value) : Obj := { cls := .type "tuple", data := .seq vs.toArray 0 }
noncomputable def KL : List (Addr × Obj) := [
  (176, tup [.int 0 414, .int 1 415, .int 9 416, .int 10 417, .int 100 418, .int 999 419, .int 5000 420, .int 9999 421]), (177, tup [.int 0 423, .int 1 424, .int 2 425, .int 9 426, .int 35 427, .int 9999 428, .int 10000 429, .int 59994 430]), (178, tup [.int 1 432, .int 2 433, .int 9999 434, .int 10000 435, .int 10001 436]),
  (20, co "trimmed" 191 3 1 15 196),
  (21, fo 2 20 "limbs.core" 187),
  (27, co "from_int" 199 8 1 22 204),
  (28, fo 3 27 "limbs.core" 187),
  (34, co "compare" 207 14 2 29 213),
  (35, fo 4 34 "limbs.core" 187),
  (41, co "add" 216 21 2 36 225),
  (42, fo 5 41 "limbs.core" 187),
  (48, co "sub" 228 35 2 43 237),
  (49, fo 6 48 "limbs.core" 187),
  (55, co "mul_small" 240 50 2 50 249),
  (56, fo 7 55 "limbs.core" 187),
  (62, co "mul_school" 252 62 2 57 262),
  (63, fo 8 62 "limbs.core" 187),
  (69, co "trial_digit" 265 72 2 64 273),
  (70, fo 9 69 "limbs.core" 187),
  (76, co "divmod_long" 276 82 2 71 285),
  (77, fo 10 76 "limbs.core" 187),
  (83, co "to_decimal" 288 93 1 78 294),
  (84, fo 11 83 "limbs.core" 187),
  (90, co "pow_nat" 297 100 2 85 304),
  (91, fo 12 90 "limbs.core" 187),
  (97, co "gcd_nat" 307 110 2 92 315),
  (98, fo 13 97 "limbs.core" 187),
  (104, co "with_sign" 318 118 2 99 323),
  (105, fo 14 104 "limbs.core" 187),
  (111, co "signed_from_int" 326 122 1 106 330),
  (112, fo 15 111 "limbs.core" 187),
  (118, co "signed_add" 333 126 2 113 338),
  (119, fo 16 118 "limbs.core" 187),
  (125, co "signed_mul" 341 136 2 120 346),
  (126, fo 17 125 "limbs.core" 187),
  (132, co "signed_to_decimal" 349 138 1 127 353),
  (133, fo 18 132 "limbs.core" 187),
  (139, co "fraction_of" 356 142 2 134 363),
  (140, fo 19 139 "limbs.core" 187),
  (146, co "fraction_add" 366 148 2 141 373),
  (147, fo 20 146 "limbs.core" 187),
  (153, co "factorial_decimal" 376 152 1 148 382),
  (154, fo 21 153 "limbs.core" 187),
  (160, co "fibonacci_decimal" 385 157 1 155 393),
  (161, fo 22 160 "limbs.core" 187),
  (167, co "power_of_two_decimal" 396 165 1 162 400),
  (168, fo 23 167 "limbs.core" 187),
  (174, co "harmonic_decimal" 403 167 1 169 409),
  (175, fo 24 174 "limbs.core" 187),
  (184, co "_law_limbs" 438 176 1 179 445),
  (185, fo 29 184 "law_sx_vlimbs_7" 412),
  (191, co "_law_pair" 448 184 1 186 452),
  (192, fo 30 191 "law_sx_vlimbs_7" 412),
  (198, co "_law_signed_ok" 455 190 2 193 460),
  (199, fo 31 198 "law_sx_vlimbs_7" 412),
  (205, co "_law_common" 463 202 2 200 470),
  (206, fo 32 205 "law_sx_vlimbs_7" 412),
  (212, co "_law_value" 473 208 4 207 481),
  (213, fo 33 212 "law_sx_vlimbs_7" 412),
  (219, co "_law_series" 484 213 3 214 495),
  (220, fo 34 219 "law_sx_vlimbs_7" 412),
  (226, co "_law_harmonic" 498 232 1 221 507),
  (227, fo 35 226 "law_sx_vlimbs_7" 412),
  (233, co "_law_ratio" 510 246 3 228 529),
  (234, fo 36 233 "law_sx_vlimbs_7" 412),
  (240, co "_law_ledger" 532 294 2 235 543),
  (241, fo 37 240 "law_sx_vlimbs_7" 412),
  (247, co "law" 546 330 1 242 554),
  (248, fo 38 247 "law_sx_vlimbs_7" 412)]
noncomputable abbrev KK (_ : World) : List (Addr × Obj) := KL
noncomputable def view : Program := { PySem.Challenge.pw_sx_vlimbs_7 with main := { PySem.Challenge.pw_sx_vlimbs_7.main with body := (PySem.Challenge.pw_sx_vlimbs_7.main.body.eraseIdx 25).eraseIdx 0 } }
abbrev T : List (Str × Value) := [(Str.ofString "BASE", Value.int 10000 189), (Str.ofString "trimmed", Value.ref 21), (Str.ofString "from_int", Value.ref 28), (Str.ofString "compare", Value.ref 35), (Str.ofString "add", Value.ref 42), (Str.ofString "sub", Value.ref 49), (Str.ofString "mul_small", Value.ref 56), (Str.ofString "mul_school", Value.ref 63),
  (Str.ofString "trial_digit", Value.ref 70), (Str.ofString "divmod_long", Value.ref 77), (Str.ofString "to_decimal", Value.ref 84), (Str.ofString "pow_nat", Value.ref 91), (Str.ofString "gcd_nat", Value.ref 98), (Str.ofString "with_sign", Value.ref 105), (Str.ofString "signed_from_int", Value.ref 112), (Str.ofString "signed_add", Value.ref 119), (Str.ofString "signed_mul", Value.ref 126),
  (Str.ofString "signed_to_decimal", Value.ref 133), (Str.ofString "fraction_of", Value.ref 140), (Str.ofString "fraction_add", Value.ref 147), (Str.ofString "factorial_decimal", Value.ref 154), (Str.ofString "fibonacci_decimal", Value.ref 161), (Str.ofString "power_of_two_decimal", Value.ref 168), (Str.ofString "harmonic_decimal", Value.ref 175),
  (Str.ofString "_law_edges", Value.ref 176), (Str.ofString "_law_tops", Value.ref 177), (Str.ofString "_law_scales", Value.ref 178), (Str.ofString "_law_limbs", Value.ref 185), (Str.ofString "_law_pair", Value.ref 192), (Str.ofString "_law_signed_ok", Value.ref 199), (Str.ofString "_law_common", Value.ref 206), (Str.ofString "_law_value", Value.ref 213),
  (Str.ofString "_law_series", Value.ref 220), (Str.ofString "_law_harmonic", Value.ref 227), (Str.ofString "_law_ratio", Value.ref 234), (Str.ofString "_law_ledger", Value.ref 241),
  (Str.ofString "len", Value.builtin "len"), (Str.ofString "max", Value.builtin "max"), (Str.ofString "abs", Value.builtin "abs"), (Str.ofString "all", Value.builtin "all"), (Str.ofString "range", Value.type "range"), (Str.ofString "str", Value.type "str"), (Str.ofString "type", Value.type "type"), (Str.ofString "tuple", Value.type "tuple"), (Str.ofString "int", Value.type "int"),
  (Str.ofString "ValueError", Value.type "ValueError"), (Str.ofString "ZeroDivisionError", Value.type "ZeroDivisionError")]
/-- the names that the proof reads -/
def nmL : List (Str × Option Value) := [(Str.ofString "BASE", some (Value.int 10000 189)), (Str.ofString "trimmed", some (Value.ref 21)), (Str.ofString "from_int", some (Value.ref 28)), (Str.ofString "compare", some (Value.ref 35)), (Str.ofString "add", some (Value.ref 42)), (Str.ofString "sub", some (Value.ref 49)), (Str.ofString "mul_small", some (Value.ref 56)), (Str.ofString "mul_school", some (Value.ref 63)), (Str.ofString "trial_digit", some (Value.ref 70)), (Str.ofString "divmod_long", some (Value.ref 77)), (Str.ofString "to_decimal", some (Value.ref 84)), (Str.ofString "pow_nat", some (Value.ref 91)), (Str.ofString "gcd_nat", some (Value.ref 98)), (Str.ofString "with_sign", some (Value.ref 105)), (Str.ofString "signed_from_int", some (Value.ref 112)), (Str.ofString "signed_add", some (Value.ref 119)), (Str.ofString "signed_mul", some (Value.ref 126)), (Str.ofString "signed_to_decimal", some (Value.ref 133)), (Str.ofString "fraction_of", some (Value.ref 140)), (Str.ofString "fraction_add", some (Value.ref 147)), (Str.ofString "factorial_decimal", some (Value.ref 154)), (Str.ofString "fibonacci_decimal", some (Value.ref 161)), (Str.ofString "power_of_two_decimal", some (Value.ref 168)), (Str.ofString "harmonic_decimal", some (Value.ref 175)), (Str.ofString "_law_edges", some (Value.ref 176)), (Str.ofString "_law_tops", some (Value.ref 177)), (Str.ofString "_law_scales", some (Value.ref 178)), (Str.ofString "_law_limbs", some (Value.ref 185)), (Str.ofString "_law_pair", some (Value.ref 192)), (Str.ofString "_law_signed_ok", some (Value.ref 199)), (Str.ofString "_law_common", some (Value.ref 206)), (Str.ofString "_law_value", some (Value.ref 213)), (Str.ofString "_law_series", some (Value.ref 220)), (Str.ofString "_law_harmonic", some (Value.ref 227)), (Str.ofString "_law_ratio", some (Value.ref 234)), (Str.ofString "_law_ledger", some (Value.ref 241)), (Str.ofString "len", none), (Str.ofString "max", none), (Str.ofString "abs", none), (Str.ofString "all", none), (Str.ofString "range", none), (Str.ofString "str", none), (Str.ofString "type", none), (Str.ofString "tuple", none), (Str.ofString "int", none), (Str.ofString "ValueError", none), (Str.ofString "ZeroDivisionError", none), (Str.ofString "law", some (Value.ref 248))]
def Gn (h : Heap) : Prop := ∃ mg, h.Ns mainGlobals mg ∧ ∀ p ∈ nmL, mg p.1 = p.2
noncomputable def hk : Hook where
  α := Bool × List (Option Value) × List (Option Obj)
  obs := fun s => (s.heap.isNs mainGlobals, nmL.map (fun p => s.heap.nsMap mainGlobals p.1), KL.map fun p => s.heap.get? p.1)
  val := fun _ => (true, nmL.map (·.2), KL.map fun p => some p.2)
  says := fun _ h => Gn h ∧ ∀ p ∈ KL, h.get? p.1 = some p.2
  of := fun w s e => by
    have e1 : s.heap.isNs mainGlobals = true := congrArg (·.1) e
    have e2 : nmL.map (fun p => s.heap.nsMap mainGlobals p.1) = nmL.map (·.2) := congrArg (·.2.1) e
    have e3 : KL.map (fun p => s.heap.get? p.1) = KL.map fun p => some p.2 := congrArg (·.2.2) e
    exact ⟨⟨_, .of_isNs e1, fun p hp => List.map_inj_left.mp e2 p hp⟩, fun p hp => List.map_inj_left.mp e3 p hp⟩
  keeps := fun w h h' x k => ⟨let ⟨mg, g, r⟩ := x.1; ⟨mg, g.keeps k, r⟩, fun p hp => k _ _ (x.2 p hp)⟩
theorem left : LeftO PySem.Challenge.rw_sx_vlimbs_7.row.toRowW.prog view [] (fun s => xlAt view [] s && recOk (RowW.records PySem.Challenge.rw_sx_vlimbs_7.row.toRowW) s) (Hook.obs hk) (Hook.val hk) 2414 := fun w => by kernel_rfl
theorem hd (walk : WalkO view [] (XL view []) (Hook.says hk) PySem.Challenge.rw_sx_vlimbs_7.row.toRowW (df 38) [] fun f vs => PySem.call f vs) : PySem.Challenge.rw_sx_vlimbs_7.Holds := by
  w_on
  o_law
  refine holds_open (q := view) (loose := []) (Xt := fun s => xlAt view [] s && recOk (RowW.records PySem.Challenge.rw_sx_vlimbs_7.row.toRowW) s) (XP := XL view []) (Yf := Hook.obs hk) (Ya := Hook.val hk) (YP := Hook.says hk) (N := 2414) left (Hook.of hk) (Hook.keeps hk)
    (fun s e => xl_of s (Bool.and_eq_true_iff.mp e).1) XL.keeps (by kernel_rfl) (by kernel_rfl) (by kernel_rfl) (fun s e => recFacts_of (Bool.and_eq_true_iff.mp e).2) (by rfl) (by assumption) (by decide +kernel) ⟨rfl, rfl, rfl, rfl, rfl, by decide +kernel⟩ ?hw walk
  case hw => w_witness2
end Mine
end
section
open PySem PySem.Calls PyProof.Rows
namespace Mine

abbrev Own := List (Addr × (Obj → Prop))
def Has (h : Heap) (a : Addr) (p : Obj → Prop) : Prop := ∃ o, h.get? a = some o ∧ p o
theorem Has.keeps {h h' : Heap} {a : Addr} {p : Obj → Prop} (x : Has h a p) (k : ∀ b o, h.get? b = some o → h'.get? b = some o) : Has h' a p :=
  let ⟨o, e, q⟩ := x; ⟨o, k _ _ e, q⟩
theorem Has.lt {h : Heap} {a : Addr} {p : Obj → Prop} (x : Has h a p) : a < h.objs.size := let ⟨_, e, _⟩ := x; Heap.lt_size e

/-- the frame's map: names beside values -/
def fm : List Str → List (Option Value) → Str → Option Value
  | n :: ns, v :: vs, y => if y = n then v else fm ns vs y
  | _, _, _ => none

inductive At : List Str → List (Option Value) → Str → Value → Prop
  | head {x ns v vs} : At (x :: ns) (some v :: vs) x v
  | tail {y ns o vs x v} : At ns vs x v → At (y :: ns) (o :: vs) x v
theorem At.mem {ns vs x v} (h : At ns vs x v) : x ∈ ns := by
  induction h with
  | head => exact .head _
  | tail _ ih => exact .tail _ ih
theorem At.get {ns vs x v} (h : At ns vs x v) (nd : ns.Nodup) : fm ns vs x = some v := by
  induction h with
  | head => simp [fm]
  | @tail y ns o vs x v h ih =>
    have hy : x ≠ y := fun e => (List.nodup_cons.mp nd).1 (e ▸ h.mem)
    simp only [fm, if_neg hy]
    exact ih (List.nodup_cons.mp nd).2

inductive Put : List Str → List (Option Value) → Str → Value → List (Option Value) → Prop
  | head {x ns o v vs} : Put (x :: ns) (o :: vs) x v (some v :: vs)
  | tail {y ns o vs x v vs'} : Put ns vs x v vs' → Put (y :: ns) (o :: vs) x v (o :: vs')
theorem Put.mem {ns vs x v vs'} (h : Put ns vs x v vs') : x ∈ ns := by
  induction h with
  | head => exact .head _
  | tail _ ih => exact .tail _ ih
theorem Put.eq {ns vs x v vs'} (h : Put ns vs x v vs') (nd : ns.Nodup) : (fun y => if y = x then some v else fm ns vs y) = fm ns vs' := by
  induction h with
  | head => funext y; simp only [fm]; split <;> simp_all
  | @tail y ns o vs x v vs' h ih =>
    have hy : y ≠ x := fun e => (List.nodup_cons.mp nd).1 (e ▸ h.mem)
    have := ih (List.nodup_cons.mp nd).2
    funext z
    have hz := congrFun this z
    simp only [fm]
    by_cases e : z = y
    · subst e; simp [hy]
    · simp only [if_neg e]; exact hz

theorem Put.len {ns vs x v vs'} (h : Put ns vs x v vs') : vs.length = vs'.length := by
  induction h with
  | head => rfl
  | tail _ ih => simp only [List.length_cons, ih]
theorem Put.at_ : ∀ {ns : List Str} {vs : List (Option Value)} {x : Str} {k : Nat} (v : Value), ns[k]? = some x → vs.length = ns.length → Put ns vs x v (vs.set k (some v))
  | n :: ns, o :: vs, x, 0, v, h, _ => by cases h; exact .head
  | n :: ns, o :: vs, x, k + 1, v, h, hl => .tail (Put.at_ v (by simpa using h) (by simpa using hl))
  | [], _, _, _, _, h, _ => by simp at h
  | n :: ns, [], _, _, _, _, hl => by simp at hl

structure Fx (h₀ : Heap) (L : Addr) (h : Heap) (ns : List Str) (vs : List (Option Value)) (own : Own) : Prop where
  fr : Fr h₀ L h (fm ns vs)
  has : ∀ e ∈ own, Has h e.1 e.2
  off : ∀ e ∈ own, e.1 ≠ L ∧ h₀.get? e.1 = none
  nd : (own.map (·.1)).Nodup
  len : vs.length = ns.length

structure Sc (scope : Scope) (ns : List Str) : Prop where
  nd : ns.Nodup
  kind : scope.kind = .function
  loc : ∀ x ∈ ns, scope.names.lookup x = some .local
  dbg : ∀ x ∈ ns, (x == ("__debug__" : Str)) = false

def nodupB : List Str → Bool
  | [] => true
  | x :: r => !r.any (fun y => x == y) && nodupB r
theorem nodup_of : ∀ {ns : List Str}, nodupB ns = true → ns.Nodup
  | [], _ => .nil
  | x :: r, h => by
    simp only [nodupB, Bool.and_eq_true, Bool.not_eq_true', List.any_eq_false, beq_iff_eq] at h
    exact List.nodup_cons.mpr ⟨fun hm => h.1 x hm rfl, nodup_of h.2⟩

def mk (s : Shared) (h : Heap) (tk : Nat) : Shared := { s with heap := h, toks := tk }
theorem mk_mk {s : Shared} {h h' : Heap} {tk tk' : Nat} : mk (mk s h tk) h' tk' = mk s h' tk' := rfl

/-- one entry taken out -/
inductive Pick (e : Addr × (Obj → Prop)) : Own → Own → Prop
  | head {r} : Pick e (e :: r) r
  | tail {x r r'} : Pick e r r' → Pick e (x :: r) (x :: r')
theorem Pick.perm {e : Addr × (Obj → Prop)} {l l' : Own} (h : Pick e l l') : l.Perm (e :: l') := by
  induction h with
  | head => exact .refl _
  | tail _ ih => exact (ih.cons _).trans (.swap ..)
/-- some entries, in any order -/
inductive Sel : Own → Own → Prop
  | nil {own} : Sel [] own
  | cons {e r own own₁} : Pick e own own₁ → Sel r own₁ → Sel (e :: r) own
theorem Sel.subset {l l' : Own} (h : Sel l l') : ∀ e ∈ l, e ∈ l' := by
  induction h with
  | nil => intro e he; cases he
  | cons p _ ih =>
    intro e he
    rcases List.mem_cons.mp he with rfl | he
    · exact p.perm.mem_iff.mpr (.head _)
    · exact p.perm.mem_iff.mpr (.tail _ (ih e he))
theorem Sel.nodup {l l' : Own} (h : Sel l l') : (l'.map (·.1)).Nodup → (l.map (·.1)).Nodup := by
  induction h with
  | nil => intro _; exact .nil
  | @cons e r own own₁ p s ih =>
    intro nd
    have nd' := (p.perm.map (·.1)).nodup_iff.mp nd
    rw [List.map_cons, List.nodup_cons] at nd' ⊢
    refine ⟨fun hm => nd'.1 ?_, ih nd'.2⟩
    obtain ⟨x, hx, hx'⟩ := List.mem_map.mp hm
    exact List.mem_map.mpr ⟨x, s.subset x hx, hx'⟩

/-- what a call gains -/
structure Gain (h h' : Heap) (new : Own) : Prop where
  keep : ∀ b o, h.get? b = some o → h'.get? b = some o
  has : ∀ e ∈ new, Has h' e.1 e.2
  fresh : ∀ e ∈ new, h.get? e.1 = none
  nd : (new.map (·.1)).Nodup

section
variable {h₀ h h' : Heap} {L : Addr} {ns : List Str} {vs vs' : List (Option Value)} {own own' new : Own}
theorem Fx.keeps (X : Fx h₀ L h ns vs own) (k : ∀ b o, h.get? b = some o → h'.get? b = some o) : Fx h₀ L h' ns vs own :=
  ⟨⟨X.fr.ns.keeps k, fun b o e => k _ _ (X.fr.keep b o e), X.fr.above⟩, fun e he => (X.has e he).keeps k, X.off, X.nd, X.len⟩
theorem Fx.gain (X : Fx h₀ L h ns vs own) (g : Gain h h' new) : Fx h₀ L h' ns vs (new ++ own) := by
  have Y := X.keeps g.keep
  obtain ⟨oL, es, ep, hL, r⟩ := X.fr.ns
  refine ⟨Y.fr, fun e he => (List.mem_append.mp he).elim (g.has e) (Y.has e), fun e he => (List.mem_append.mp he).elim (fun q => ?_) (X.off e), ?_, X.len⟩
  · have f := g.fresh e q
    refine ⟨fun z => ?_, ?_⟩
    · rw [z, hL] at f; cases f
    · cases q' : h₀.get? e.1 with
      | none => rfl
      | some o => rw [X.fr.keep _ _ q'] at f; cases f
  · rw [List.map_append]
    refine List.nodup_append.mpr ⟨g.nd, X.nd, fun a ha b hb z => ?_⟩
    obtain ⟨e, he, rfl⟩ := List.mem_map.mp ha
    obtain ⟨e', he', rfl⟩ := List.mem_map.mp hb
    obtain ⟨o, ho, _⟩ := X.has e' he'
    have f := g.fresh e he
    rw [z, ho] at f; cases f
theorem Fx.gain0 (X : Fx h₀ L h ns vs own) (g : Gain h h' []) : Fx h₀ L h' ns vs own := X.gain g
theorem Fx.gain1 {e : Addr × (Obj → Prop)} (X : Fx h₀ L h ns vs own) (g : Gain h h' [e]) : Fx h₀ L h' ns vs (e :: own) := X.gain g
theorem Fx.gain2 {e e' : Addr × (Obj → Prop)} (X : Fx h₀ L h ns vs own) (g : Gain h h' [e, e']) : Fx h₀ L h' ns vs (e :: e' :: own) := X.gain g
theorem Fx.gain3 {e e' e'' : Addr × (Obj → Prop)} (X : Fx h₀ L h ns vs own) (g : Gain h h' [e, e', e'']) : Fx h₀ L h' ns vs (e :: e' :: e'' :: own) := X.gain g
theorem Fx.gain4 {e e' e'' e''' : Addr × (Obj → Prop)} (X : Fx h₀ L h ns vs own) (g : Gain h h' [e, e', e'', e''']) : Fx h₀ L h' ns vs (e :: e' :: e'' :: e''' :: own) := X.gain g
theorem Fx.sub (X : Fx h₀ L h ns vs own) (k : Sel own' own) : Fx h₀ L h ns vs own' :=
  ⟨X.fr, fun e he => X.has e (k.subset e he), fun e he => X.off e (k.subset e he), k.nodup X.nd, X.len⟩
theorem Fx.ret (X : Fx h₀ L h ns vs own) (k : Sel new own) : Gain h₀ h new :=
  ⟨X.fr.keep, fun e he => X.has e (k.subset e he), fun e he => (X.off e (k.subset e he)).2, k.nodup X.nd⟩
theorem Gain.refl (h : Heap) : Gain h h [] := ⟨fun _ _ e => e, (fun _ h => nomatch h), (fun _ h => nomatch h), by simp⟩

/-- an entry turned -/
inductive Rep (a : Addr) (q p : Obj → Prop) : Own → Own → Prop
  | head {r} : Rep a q p ((a, q) :: r) ((a, p) :: r)
  | tail {e r r'} : Rep a q p r r' → Rep a q p (e :: r) (e :: r')
theorem Rep.addrs {a : Addr} {q p : Obj → Prop} {l l' : Own} (h : Rep a q p l l') : l'.map (·.1) = l.map (·.1) := by
  induction h with
  | head => rfl
  | tail _ ih => simp only [List.map_cons, ih]
theorem Rep.mem {a : Addr} {q p : Obj → Prop} {l l' : Own} (h : Rep a q p l l') : (a, q) ∈ l := by
  induction h with
  | head => exact .head _
  | tail _ ih => exact .tail _ ih
theorem Rep.cases {a : Addr} {q p : Obj → Prop} {l l' : Own} (h : Rep a q p l l') : (l.map (·.1)).Nodup → ∀ e ∈ l', e = (a, p) ∨ (e ∈ l ∧ e.1 ≠ a) := by
  induction h with
  | @head r =>
    intro nd e he
    rcases List.mem_cons.mp he with rfl | he
    · exact .inl rfl
    · exact .inr ⟨.tail _ he, fun z => (List.nodup_cons.mp nd).1 (by have := List.mem_map_of_mem (f := (·.1)) he; rw [← z]; exact this)⟩
  | @tail e₀ r r' h ih =>
    intro nd e he
    rcases List.mem_cons.mp he with rfl | he
    · exact .inr ⟨.head _, fun z => (List.nodup_cons.mp nd).1 (by have := List.mem_map_of_mem (f := (·.1)) h.mem; show e.1 ∈ _; rw [z]; exact this)⟩
    · rcases ih (List.nodup_cons.mp nd).2 e he with z | ⟨z, z'⟩
      · exact .inl z
      · exact .inr ⟨.tail _ z, z'⟩
theorem Fx.upd {a : Addr} {q p : Obj → Prop} (X : Fx h₀ L h ns vs own) (r : Rep a q p own own') (hs : Heap.SameBut a h h') (hp : Has h' a p) : Fx h₀ L h' ns vs own' := by
  have hoff : a ≠ L ∧ h₀.get? a = none := X.off _ r.mem
  obtain ⟨oL, es, ep, hL, q⟩ := X.fr.ns
  refine ⟨⟨⟨oL, es, ep, (hs.2 L (Ne.symm hoff.1)).trans hL, q⟩, fun b o e => (hs.2 b fun z => ?_).trans (X.fr.keep b o e), X.fr.above⟩, fun e he => ?_, fun e he => ?_, ?_, X.len⟩
  · rw [z, hoff.2] at e; cases e
  · rcases r.cases X.nd e he with rfl | ⟨m, n⟩
    · exact hp
    · obtain ⟨o, ho, hq⟩ := X.has e m
      exact ⟨o, (hs.2 _ n).trans ho, hq⟩
  · rcases r.cases X.nd e he with rfl | ⟨m, n⟩
    · exact hoff
    · exact X.off e m
  · rw [r.addrs]; exact X.nd
theorem Fx.own_ {a : Addr} {p : Obj → Prop} (X : Fx h₀ L h ns vs own) (m : (a, p) ∈ own) : Has h a p := X.has _ m
theorem Fx.old {a : Addr} {p : Obj → Prop} (X : Fx h₀ L h ns vs own) (x : Has h₀ a p) : Has h a p := x.keeps X.fr.keep
theorem Fx.set {x : Str} {v : Value} (X : Fx h₀ L h ns vs own) (nd : ns.Nodup) (r : Put ns vs x v vs') (hn : h'.Ns L (fun y => if y = x then some v else fm ns vs y)) (hs : Heap.SameBut L h h') : Fx h₀ L h' ns vs' own :=
  ⟨r.eq nd ▸ X.fr.set hn hs, fun e he => let ⟨o, ho, q⟩ := X.has e he; ⟨o, (hs.2 _ (X.off e he).1).trans ho, q⟩, X.off, X.nd, r.len ▸ X.len⟩
theorem Fx.push (X : Fx h₀ L h ns vs own) (o : Obj) {p : Obj → Prop} (hp : p o) (hf : o.isFreed = false := by rfl) : Fx h₀ L (h.push o) ns vs ((h.objs.size, p) :: own) := by
  refine X.gain (new := [(h.objs.size, p)]) ⟨fun _ _ e => Heap.get?_push_of_some _ e, fun e he => ?_, fun e he => ?_, by simp⟩
  · rw [List.mem_singleton.mp he]; exact ⟨o, Heap.get?_push_size _ hf, hp⟩
  · rw [List.mem_singleton.mp he]
    cases q : h.get? h.objs.size with
    | none => rfl
    | some o => exact absurd (Heap.lt_size q) (Nat.lt_irrefl _)
end

section
variable {M : Model} {A : Around} {E : Value → Shared → Prop} {s : Shared} {h₀ h : Heap} {tk : Nat} {L f : Addr} {nm : Str} {scope : Scope} {cd : Value} {ns : List Str} {vs vs' : List (Option Value)} {own : Own}

theorem r_name {x : Str} {pos : Pos} {v : Value} {Q : Value → Shared → Prop} (X : Fx h₀ L h ns vs own) (sc : Sc scope ns) (a : At ns vs x v) (q : Q v (mk s h tk)) :
    wpAny M A (eval (.Name x pos) (envOf nm scope L f cd)) Q E (mk s h tk) :=
  ld (m := fm ns vs) X.fr (a.get sc.nd) q sc.kind (sc.loc _ a.mem) (sc.dbg _ a.mem)
theorem r_load {x : Str} {v : Value} {Q : Value → Shared → Prop} (X : Fx h₀ L h ns vs own) (sc : Sc scope ns) (a : At ns vs x v) (q : Q v (mk s h tk)) :
    wpAny M A (loadName (envOf nm scope L f cd) x) Q E (mk s h tk) :=
  ldn (m := fm ns vs) X.fr (a.get sc.nd) q sc.kind (sc.loc _ a.mem)
theorem r_store {x : Str} {v : Value} {Q : Unit → Shared → Prop} (X : Fx h₀ L h ns vs own) (sc : Sc scope ns) (r : Put ns vs x v vs')
    (q : ∀ h' tk', Fx h₀ L h' ns vs' own → Q () (mk s h' tk')) : wpAny M A (storeName (envOf nm scope L f cd) x v) Q E (mk s h tk) :=
  wpAny_storeName_local (sc.loc _ r.mem) X.fr.ns (fun h' hn hs => q h' _ (X.set sc.nd r hn hs))
    (by show (scope.kind == .class || (scope.kind == .module && L != mainGlobals)) = false; rw [sc.kind]; rfl)

theorem r_int {i : Int} {k pos} {env : Env} {Q : Value → Shared → Prop} (q : ∀ t tk', Q (.int i t) (mk s h tk')) : wpAny M A (eval (.Constant (.int i) k pos) env) Q E (mk s h tk) :=
  wpAny_Constant_int (q _ _)
theorem r_str {x : Str} {k pos} {env : Env} {Q : Value → Shared → Prop} (q : ∀ t tk', Q (.str x t) (mk s h tk')) : wpAny M A (eval (.Constant (.str x) k pos) env) Q E (mk s h tk) :=
  Constant_str (q _ _)
end
end Mine
end
section
open PySem PySem.Calls PyProof.Rows
namespace Mine

abbrev E0 : Value → Shared → Prop := fun _ _ => False

theorem execs_append (b r : List Stmt) (env : Env) : execs (b ++ r) env = (execs b env >>= fun f => match f with | .next => execs r env | f => pure f) := by
  induction b with
  | nil => rw [List.nil_append, execs_nil]; exact (pure_bind _ _).symm
  | cons st b ih =>
    rw [List.cons_append, execs_cons, execs_cons, bind_assoc]
    congr 1
    funext f
    cases f with
    | next => exact ih
    | _ => exact (pure_bind _ _).symm

section
variable {M : Model} {A : Around} {E : Value → Shared → Prop} {s : Shared} {env : Env} {rest : List Stmt} {Q : Flow → Shared → Prop}

theorem x_nil (q : Q .next s) : wpAny M A (execs [] env) Q E s := wpAny_execs_nil q
theorem x_assign {x pos' value pos} (h : wpAny M A (eval value env) (fun v s₁ => wpAny M A (storeName env x v) (fun _ s₂ => wpAny M A (execs rest env) Q E s₂) E s₁) E s)
    (hs : swapsWith value (some (.Name x pos')) pos.line env = pure false := by with_unfolding_all rfl) : wpAny M A (execs (.Assign [.Name x pos'] value pos :: rest) env) Q E s :=
  wpAny_execs_cons (wpAny_Assign_Name h hs)
theorem x_aug {x pos' op value pos} (h : wpAny M A (loadName env x) (fun old s₁ => wpAny M A (eval value env) (fun v s₂ => wpAny M A (inplaceOp op old v)
      (fun r s₃ => wpAny M A (storeName env x r) (fun _ s₄ => wpAny M A (execs rest env) Q E s₄) E s₃) E s₂) E s₁) E s) :
    wpAny M A (execs (.AugAssign (.Name x pos') op value pos :: rest) env) Q E s :=
  wpAny_execs_cons (wpAny_AugAssign_Name h)
theorem x_ret {e pos} (h : wpAny M A (eval e env) (fun v s₁ => Q (.ret v) s₁) E s) : wpAny M A (execs (.Return (some e) pos :: rest) env) Q E s :=
  wpAny_execs_cons (wpAny_Return_some h)
theorem x_if {test body orelse pos} (h : wpAny M A (isTrue test env (eval test env)) (fun b s₂ => if b then wpAny M A (execs (body ++ rest) env) Q E s₂ else wpAny M A (execs (orelse ++ rest) env) Q E s₂) E s) :
    wpAny M A (execs (.If test body orelse pos :: rest) env) Q E s := fun Γ p hΓ => by
  rw [execs_cons]
  simp only [exec_If, Sem.wp_bind', Sem.wp_cmd_standAt]
  refine Sem.wp_mono M Γ _ (fun b p₂ s₂ h₂ => ?_) (fun _ _ _ h' => h') _ _ (h Γ _ hΓ)
  cases b with
  | true =>
    have h3 := h₂ Γ p₂ hΓ
    rw [execs_append, Sem.wp_bind'] at h3
    exact h3
  | false =>
    have h3 := h₂ Γ p₂ hΓ
    rw [execs_append, Sem.wp_bind'] at h3
    exact h3
theorem x_ac {a : Stmt} {b c : List Stmt} (h : wpAny M A (execs (a :: (b ++ c)) env) Q E s) : wpAny M A (execs ((a :: b) ++ c) env) Q E s := h
theorem x_an {c : List Stmt} (h : wpAny M A (execs c env) Q E s) : wpAny M A (execs ([] ++ c) env) Q E s := h
theorem x_expr {e pos} (h : wpAny M A (eval e env) (fun v s' => match v with | .ref _ => False | _ => wpAny M A (execs rest env) Q E s') E s)
    (hi : interactive env = false := by with_unfolding_all rfl) (hs : swapsWith e none pos.line env = pure false := by with_unfolding_all rfl) : wpAny M A (execs (.Expr e pos :: rest) env) Q E s :=
  wpAny_execs_cons (wpAny_Expr h hi hs)
theorem split_if {c : Prop} [Decidable c] {P Q : Prop} (ht : c → P) (hf : ¬ c → Q) : if decide c = true then P else Q := by
  by_cases h : c
  · rw [if_pos (decide_eq_true h)]; exact ht h
  · rw [if_neg (by rw [decide_eq_false h]; exact Bool.false_ne_true)]; exact hf h
theorem split_if' {b : Bool} {P Q : Prop} (ht : b = true → P) (hf : b = false → Q) : if b = true then P else Q := by
  cases b with
  | true => exact ht rfl
  | false => exact hf rfl
end

/-- a loop's turn ends -/
def Turn (s : Shared) (h₀ : Heap) (L : Addr) (ns : List Str) (it : Own) (J : List (Option Value) → Own → Prop) (Q : Flow → Shared → Prop) (R : Shared → Prop) (f : Flow) (s' : Shared) : Prop :=
  match f with
  | .next | .cont => ∃ h' tk' vs' own', s' = mk s h' tk' ∧ J vs' own' ∧ Fx h₀ L h' ns vs' (it ++ own')
  | .brk => R s'
  | .ret v => Q (.ret v) s'
theorem Turn.next {s : Shared} {h₀ h' : Heap} {L : Addr} {ns : List Str} {it own own' : Own} {J : List (Option Value) → Own → Prop} {Q : Flow → Shared → Prop} {R : Shared → Prop} {tk : Nat} {vs' : List (Option Value)}
    (X : Fx h₀ L h' ns vs' own) (j : J vs' own') (k : Sel (it ++ own') own) : Turn s h₀ L ns it J Q R .next (mk s h' tk) := ⟨h', tk, vs', own', rfl, j, X.sub k⟩

theorem Turn.next0 {s : Shared} {h₀ h' : Heap} {L : Addr} {ns : List Str} {own own' : Own} {J : List (Option Value) → Own → Prop} {Q : Flow → Shared → Prop} {R : Shared → Prop} {tk : Nat} {vs' : List (Option Value)}
    (X : Fx h₀ L h' ns vs' own) (j : J vs' own') (k : Sel own' own) : Turn s h₀ L ns [] J Q R .next (mk s h' tk) := Turn.next X j k
theorem Turn.next1 {s : Shared} {h₀ h' : Heap} {L : Addr} {ns : List Str} {e : Addr × (Obj → Prop)} {own own' : Own} {J : List (Option Value) → Own → Prop} {Q : Flow → Shared → Prop} {R : Shared → Prop} {tk : Nat} {vs' : List (Option Value)}
    (X : Fx h₀ L h' ns vs' own) (j : J vs' own') (k : Sel (e :: own') own) : Turn s h₀ L ns [e] J Q R .next (mk s h' tk) := Turn.next X j k

section
variable {prog : Program} {w : World} {A : Around} {s : Shared} {h₀ h : Heap} {tk : Nat} {L f : Addr} {nm : Str} {scope : Scope} {cd : Value} {ns : List Str} {vs : List (Option Value)} {own : Own} {rest : List Stmt} {Q : Flow → Shared → Prop}

theorem x_while {test body pos} (J : Nat → List (Option Value) → Own → Prop) (X : Fx h₀ L h ns vs own) (n : Nat) (h0 : J n vs own)
    (turn : ∀ n vs own h tk, J n vs own → Fx h₀ L h ns vs own →
      wpAny (model prog w) A (isTrue test (envOf nm scope L f cd) (eval test (envOf nm scope L f cd))) (fun b s₂ =>
        if b then wpAny (model prog w) A (execs body (envOf nm scope L f cd)) (Turn s h₀ L ns [] (fun vs' own' => ∃ n', n' < n ∧ J n' vs' own') Q (fun s' => wpAny (model prog w) A (execs rest (envOf nm scope L f cd)) Q E0 s')) E0 s₂
        else wpAny (model prog w) A (execs rest (envOf nm scope L f cd)) Q E0 s₂) E0 (mk s h tk)) :
    wpAny (model prog w) A (execs (.While test body [] pos :: rest) (envOf nm scope L f cd)) Q E0 (mk s h tk) := by
  refine wpAny_execs_cons (wpAny_While (codeAny_whileLoop (fun n s' => ∃ h' tk' vs' own', s' = mk s h' tk' ∧ J n vs' own' ∧ Fx h₀ L h' ns vs' own') ?_ n ⟨h, tk, vs, own, rfl, h0, X⟩))
  rintro n s' ⟨h', tk', vs', own', rfl, j, X'⟩
  refine wpAny_mono (turn n vs' own' h' tk' j X') (fun b s₂ h₂ => ?_) fun _ _ x => x.elim
  cases b with
  | true =>
    refine wpAny_mono h₂ (fun fl s₃ h₃ => ?_) fun _ _ x => x.elim
    cases fl with
    | next => obtain ⟨h', tk', vs', own', rfl, ⟨n', hn, j⟩, X⟩ := h₃; exact ⟨n', hn, h', tk', vs', own', rfl, j, X⟩
    | cont => obtain ⟨h', tk', vs', own', rfl, ⟨n', hn, j⟩, X⟩ := h₃; exact ⟨n', hn, h', tk', vs', own', rfl, j, X⟩
    | brk => exact h₃
    | ret v => exact h₃
  | false => exact wpAny_execs_nil h₂

theorem it_walk {x : Str} {px : Pos} {body : List Stmt} {I : Addr} {fp : List Addr} {n : Nat} {P : Nat → Value → Prop} {St : Nat → Heap → Prop}
    (W : Walks prog w A I fp [I] n P St) (sc : Sc scope ns) {k : Nat} (hx : ns[k]? = some x) (hold : ∀ b ∈ fp, b ≠ I → ∃ o, h₀.get? b = some o) (hin : ∀ i h, St i h → ∃ o, h.get? I = some o)
    (J : Nat → List (Option Value) → Own → Prop) (X : Fx h₀ L h ns vs ((I, fun _ => True) :: own)) (hst : St 0 h) (h0 : J 0 vs own)
    (turn : ∀ i v vs₁ own₁ h tk it, i < n → P i v → J i vs₁ own₁ → Fx h₀ L h ns (vs₁.set k (some v)) (it :: own₁) →
      wpAny (model prog w) A (execs body (envOf nm scope L f cd)) (Turn s h₀ L ns [it] (J (i + 1)) Q (fun s' => wpAny (model prog w) A (execs rest (envOf nm scope L f cd)) Q E0 s')) E0 (mk s h tk))
    (done : ∀ vs₁ own₁ h tk, J n vs₁ own₁ → Fx h₀ L h ns vs₁ own₁ → wpAny (model prog w) A (execs rest (envOf nm scope L f cd)) Q E0 (mk s h tk)) :
    codeAny (model prog w) A (.forLoop (.Name x px) (.ref I) body [] (envOf nm scope L f cd))
      (fun r s' => match r with | .ok fl => (match fl with | .next => wpAny (model prog w) A (execs rest (envOf nm scope L f cd)) Q E0 s' | fl => Q fl s') | .error e => cameBackBy (model prog w) A (envOf nm scope L f cd) E0 e s') (mk s h tk) := by
  have hIL : I ≠ L := (X.off _ (.head _)).1
  have hI0 : h₀.get? I = none := (X.off _ (.head _)).2
  have hp : ((envOf nm scope L f cd).scope.kind == .class || ((envOf nm scope L f cd).scope.kind == .module && (envOf nm scope L f cd).locals != (envOf nm scope L f cd).globals)) = false := by
    show (scope.kind == .class || (scope.kind == .module && L != mainGlobals)) = false; rw [sc.kind]; rfl
  have hLold : h₀.get? L = none := by
    cases q : h₀.get? L with
    | none => rfl
    | some o => exact absurd (Nat.lt_of_lt_of_le (Heap.lt_size q) X.fr.above) (Nat.lt_irrefl _)
  have hLf : L ∉ fp := fun hm => by
    obtain ⟨o, ho⟩ := hold L hm (Ne.symm hIL)
    rw [hLold] at ho; cases ho
  refine codeAny_forLoop (fun k s' => ∃ h' tk' vs' own' i, s' = mk s h' tk' ∧ St i h' ∧ Fx h₀ L h' ns vs' ((I, fun _ => True) :: own') ∧ J i vs' own' ∧ i ≤ n ∧ k = n + 1 - i) ?_ (n + 1)
    ⟨h, tk, vs, own, 0, rfl, hst, X, h0, Nat.zero_le _, rfl⟩
  rintro k' s' ⟨h', tk', vs', own', i, rfl, hst', X', j, hi, rfl⟩
  have next : ∀ h₁ : Heap, (∀ b o, b ∉ [I] → h'.get? b = some o → h₁.get? b = some o) → Fx h₀ L h₁ ns vs' own' := fun h₁ hk => by
    have k' : ∀ b o, b ≠ I → h'.get? b = some o → h₁.get? b = some o := fun b o hb e => hk b o (fun z => hb (List.mem_singleton.mp z)) e
    refine ⟨⟨X'.fr.ns.at' fun o e => k' _ o (Ne.symm hIL) e, fun b o e => k' b o (fun z => by rw [z, hI0] at e; cases e) (X'.fr.keep b o e), X'.fr.above⟩, fun e he => ?_, fun e he => X'.off e (.tail _ he), (List.nodup_cons.mp X'.nd).2, X'.len⟩
    obtain ⟨o, ho, q⟩ := X'.has e (.tail _ he)
    exact ⟨o, k' _ o (fun z => (List.nodup_cons.mp X'.nd).1 (z ▸ List.mem_map_of_mem (f := (·.1)) he)) ho, q⟩
  by_cases hlt : i < n
  · refine W.item i _ _ _ hlt hst' fun v h₁ tk₁ hP hst₁ hk₁ => ?_
    have X₁ := next h₁ hk₁
    have hput := Put.at_ v hx X₁.len
    refine wpAny_assign_Name (wpAny_storeName_local (sc.loc _ hput.mem) X₁.fr.ns (fun h₂ hn₂ hs₂ => ?_) hp)
    have X₂ := X₁.set sc.nd hput hn₂ hs₂
    have hst₂ : St (i + 1) h₂ := W.frame _ _ _ hst₁ fun b hb o e => (hs₂.2 b fun q => hLf ((show b = L from q) ▸ hb)).trans e
    obtain ⟨oI, hoI⟩ := hin _ _ hst₂
    have X₃ : Fx h₀ L h₂ ns (vs'.set k (some v)) ((I, fun o => o = oI) :: own') := by
      refine ⟨X₂.fr, fun e he => ?_, fun e he => ?_, X'.nd, X₂.len⟩
      · rcases List.mem_cons.mp he with rfl | he
        · exact ⟨oI, hoI, rfl⟩
        · exact X₂.has e he
      · rcases List.mem_cons.mp he with rfl | he
        · exact ⟨hIL, hI0⟩
        · exact X₂.off e he
    refine wpAny_mono (turn i v vs' own' h₂ _ _ hlt hP j X₃) (fun fl s₃ h₃ => ?_) fun _ _ x => x.elim
    have fin : (∃ h' tk' vs' own', s₃ = mk s h' tk' ∧ J (i + 1) vs' own' ∧ Fx h₀ L h' ns vs' ([(I, fun o => o = oI)] ++ own')) →
        ∃ m, m < n + 1 - i ∧ ∃ h' tk' vs' own' i, s₃ = mk s h' tk' ∧ St i h' ∧ Fx h₀ L h' ns vs' ((I, fun _ => True) :: own') ∧ J i vs' own' ∧ i ≤ n ∧ m = n + 1 - i := by
      rintro ⟨h₄, tk₄, vs₄, own₄, rfl, j₄, X₄⟩
      obtain ⟨o, ho, rfl⟩ := X₄.has _ (.head _)
      refine ⟨n + 1 - (i + 1), by omega, h₄, tk₄, vs₄, own₄, i + 1, rfl, W.frame _ _ _ hst₂ fun b hb o e => ?_, ⟨X₄.fr, fun e he => ?_, fun e he => ?_, X₄.nd, X₄.len⟩, j₄, hlt, rfl⟩
      · by_cases hbI : b = I
        · subst hbI; rw [hoI] at e; cases e; exact ho
        · obtain ⟨o₀, h₀e⟩ := hold b hb hbI
          have := X₃.fr.keep b o₀ h₀e
          rw [e] at this; cases this
          exact X₄.fr.keep b o h₀e
      · rcases List.mem_cons.mp he with rfl | he
        · exact ⟨_, ho, trivial⟩
        · exact X₄.has e (.tail _ he)
      · rcases List.mem_cons.mp he with rfl | he
        · exact ⟨hIL, hI0⟩
        · exact X₄.off e (.tail _ he)
    cases fl with
    | next => exact fin h₃
    | cont => exact fin h₃
    | brk => exact h₃
    | ret v => exact h₃
  · have hin' : i = n := by omega
    subst hin'
    refine W.done _ _ _ hst' fun h₁ tk₁ hk₁ => wpAny_execs_nil ?_
    exact done vs' own' h₁ tk₁ j (next h₁ hk₁)
end
end Mine
end
section
open PySem PySem.Calls PyProof.Rows
namespace Mine

def lob (vs : List Value) (n : Nat) : Obj := { cls := .type "list", data := .seq vs.toArray n }
def tob (vs : List Value) (n : Nat) : Obj := { cls := .type "tuple", data := .seq vs.toArray n }
def IL (ns : List Int) (o : Obj) : Prop := ∃ vs n, IntsAre vs ns ∧ o = lob vs n
def TV (vs : List Value) (o : Obj) : Prop := ∃ n, o = tob vs n

section
variable {h : Heap} {a : Addr} {ns : List Int} {vs : List Value}
theorem Has.il (x : Has h a (IL ns)) : ∃ vs n, IntsAre vs ns ∧ h.get? a = some (lob vs n) := let ⟨_, e, vs, n, i, r⟩ := x; ⟨vs, n, i, r ▸ e⟩
theorem Has.isList (x : Has h a (IL ns)) : ∃ vs, IntsAre vs ns ∧ h.IsList a vs.toArray := let ⟨vs, n, i, e⟩ := x.il; ⟨vs, i, _, e, rfl, n, rfl⟩
theorem Has.tv (x : Has h a (TV vs)) : ∃ n, h.get? a = some (tob vs n) := let ⟨_, e, n, r⟩ := x; ⟨n, r ▸ e⟩
theorem Has.isTup (x : Has h a (TV vs)) : IsTup h a vs.toArray := let ⟨n, e⟩ := x.tv; ⟨_, e, rfl, n, rfl⟩
end

section
variable {prog : Program} {w : World} {A : Around} {E : Value → Shared → Prop} {s : Shared} {h : Heap} {tk : Nat} {a b : Int} {t u : Tok}
variable {Q : Value → Shared → Prop}
theorem r_add (q : ∀ t tk', Q (.int (a + b) t) (mk s h tk')) : wpAny (model prog w) A (binaryOp .Add (.int a t) (.int b u)) Q E (mk s h tk) := add_int (q _ _)
theorem r_sub (q : ∀ t tk', Q (.int (a - b) t) (mk s h tk')) : wpAny (model prog w) A (binaryOp .Sub (.int a t) (.int b u)) Q E (mk s h tk) := sub_int (q _ _)
theorem r_iadd (q : ∀ t tk', Q (.int (a + b) t) (mk s h tk')) : wpAny (model prog w) A (inplaceOp .Add (.int a t) (.int b u)) Q E (mk s h tk) := iadd_int (q _ _)
theorem r_isub (q : ∀ t tk', Q (.int (a - b) t) (mk s h tk')) : wpAny (model prog w) A (inplaceOp .Sub (.int a t) (.int b u)) Q E (mk s h tk) := isub_int (q _ _)
theorem r_mul (hm : IntMulOk a b) (q : ∀ t tk', Q (.int (a * b) t) (mk s h tk')) : wpAny (model prog w) A (binaryOp .Mult (.int a t) (.int b u)) Q E (mk s h tk) := mul_int (q _ _) hm
theorem r_mod (hb : 0 < b) (q : ∀ t tk', Q (.int (a % b) t) (mk s h tk')) : wpAny (model prog w) A (binaryOp .Mod (.int a t) (.int b u)) Q E (mk s h tk) :=
  mod_int' (by omega) (by rw [Int.fmod_eq_emod_of_nonneg a (Int.le_of_lt hb)]; exact q _ _)
theorem r_div (hb : 0 < b) (hb' : b < 1073741824) (q : ∀ t tk', Q (.int (a / b) t) (mk s h tk')) : wpAny (model prog w) A (binaryOp .FloorDiv (.int a t) (.int b u)) Q E (mk s h tk) :=
  floordiv_int (by omega) (by rw [Int.fdiv_eq_ediv_of_nonneg a (Int.le_of_lt hb)]; exact q _ _) (.inl (PyProof.noPylong_small (by omega)))
theorem r_neg (q : ∀ t tk', Q (.int (-a) t) (mk s h tk')) : wpAny (model prog w) A (unaryOp .USub (.int a t)) Q E (mk s h tk) := neg_int (q _ _)
theorem r_lt (q : Q (.bool (decide (a < b))) (mk s h tk)) : wpAny (model prog w) A (compareOp .Lt (.int a t) (.int b u)) Q E (mk s h tk) := lt_int q
theorem r_gt (q : Q (.bool (decide (a > b))) (mk s h tk)) : wpAny (model prog w) A (compareOp .Gt (.int a t) (.int b u)) Q E (mk s h tk) := gt_int q
theorem r_le (q : Q (.bool (decide (a ≤ b))) (mk s h tk)) : wpAny (model prog w) A (compareOp .LtE (.int a t) (.int b u)) Q E (mk s h tk) := le_int q
theorem r_ge (q : Q (.bool (decide (a ≥ b))) (mk s h tk)) : wpAny (model prog w) A (compareOp .GtE (.int a t) (.int b u)) Q E (mk s h tk) := ge_int q
theorem r_eq (q : Q (.bool (decide (a = b))) (mk s h tk)) : wpAny (model prog w) A (compareOp .Eq (.int a t) (.int b u)) Q E (mk s h tk) := eq_int q
theorem r_ne (q : Q (.bool (decide (a ≠ b))) (mk s h tk)) : wpAny (model prog w) A (compareOp .NotEq (.int a t) (.int b u)) Q E (mk s h tk) :=
  ne_int (by rw [show (a != b) = decide (a ≠ b) from by by_cases h : a = b <;> simp [h]]; exact q)
theorem r_truthB {c : Bool} {Q : Bool → Shared → Prop} (q : Q c (mk s h tk)) : wpAny (model prog w) A (truthy (.bool c)) Q E (mk s h tk) := wpAny_truthy_bool q
end

section
variable {prog : Program} {w : World} {A : Around} {E : Value → Shared → Prop} {s : Shared} {h₀ h : Heap} {tk : Nat} {L f : Addr} {nm : Str} {scope : Scope} {cd : Value} {ns : List Str} {vs vs' : List (Option Value)} {own own' : Own} {l : Addr} {xs : List Int}
variable {Q : Value → Shared → Prop}

theorem r_len (hl : Has h l (IL xs)) (hz : (xs.length : Int) < 2 ^ 62) (q : ∀ t tk', Q (.int xs.length t) (mk s h tk')) : wpAny (model prog w) A (call (.builtin "len") [.ref l]) Q E (mk s h tk) := by
  obtain ⟨vs, hi, hL⟩ := hl.isList
  have e : (vs.toArray.size : Int) = xs.length := by simp [hi.length]
  refine call_len_list hL (by omega) ?_
  rw [e]; exact q _ _

theorem r_item {value slice : Expr} {k : Int} {u : Tok} (hl : Has h l (IL xs)) (h0 : 0 ≤ k) (hk : k < xs.length) (hz : (xs.length : Int) < 2 ^ 62) (q : ∀ t, Q (.int (xs.getD k.toNat 0) t) (mk s h tk))
    (hs : subscripted slice false (.ref l) (.int k u) = operate [.ref l, .int k u] (getItem (.ref l) (.int k u)) := by with_unfolding_all rfl) :
    wpAny (model prog w) A (subscriptTail value slice (.ref l) (.int k u)) Q E (mk s h tk) := by
  obtain ⟨vs, hi, hL⟩ := hl.isList
  have hlt : k.toNat < xs.length := by omega
  obtain ⟨t, ht⟩ := hi.get k.toNat (xs.getD k.toNat 0) (by simp [List.getD, hlt])
  exact tail_any (Heap.IsList.typeIs (s := mk s h tk) hL) slot_list_getitem.lookup (wpAny_getItem_list hL h0 (by omega) (by simpa using ht) (q t)) hs

theorem r_itemN {value slice : Expr} {i : Nat} {u : Tok} (hl : Has h l (IL xs)) (hk : i < xs.length) (hz : (xs.length : Int) < 2 ^ 62) (q : ∀ t, Q (.int (xs.getD i 0) t) (mk s h tk))
    (hs : subscripted slice false (.ref l) (.int (i : Int) u) = operate [.ref l, .int (i : Int) u] (getItem (.ref l) (.int (i : Int) u)) := by with_unfolding_all rfl) :
    wpAny (model prog w) A (subscriptTail value slice (.ref l) (.int (i : Int) u)) Q E (mk s h tk) :=
  r_item hl (by omega) (by omega) hz (by simpa using q) hs

theorem r_tup {value slice : Expr} {ws : List Value} {k : Int} {u : Tok} {v : Value} (hl : Has h l (TV ws)) (h0 : 0 ≤ k) (hk : k < 1000) (hj : ws[k.toNat]? = some v) (q : Q v (mk s h tk))
    (hs : subscripted slice false (.ref l) (.int k u) = operate [.ref l, .int k u] (getItem (.ref l) (.int k u)) := by with_unfolding_all rfl) :
    wpAny (model prog w) A (subscriptTail value slice (.ref l) (.int k u)) Q E (mk s h tk) := by
  have hlt : k.toNat < ws.length := by
    rcases Nat.lt_or_ge k.toNat ws.length with z | z
    · exact z
    · rw [List.getElem?_eq_none z] at hj; cases hj
  refine item_tupleT (j := k.toNat) (x := v) hl.isTup (by omega) (by omega) ?_ hj q hs
  unfold seqIndex?
  have e1 : ¬ k < 0 := by omega
  have e2 : k < (ws.length : Int) := by omega
  simp [e1, e2, h0]
end
end Mine
end
section
set_option linter.unusedVariables false
open PySem PySem.Calls PyProof.Rows
namespace Mine

theorem ints_snoc {vs : List Value} {ns : List Int} (h : IntsAre vs ns) (i : Int) (t : Tok) : IntsAre (vs ++ [.int i t]) (ns ++ [i]) := by
  induction h with
  | nil => exact .cons _ _ .nil
  | cons n t' _ ih => exact .cons _ _ ih
theorem ints_set : ∀ {vs : List Value} {ns : List Int}, IntsAre vs ns → ∀ (k : Nat) (i : Int) (t : Tok), IntsAre (vs.set k (.int i t)) (ns.set k i)
  | _, _, .nil, _, _, _ => .nil
  | _, _, .cons n t' h, 0, i, t => .cons _ _ h
  | _, _, .cons n t' h, k + 1, i, t => .cons _ _ (ints_set h k i t)
theorem ints_rep (n : Nat) (i : Int) (t : Tok) : IntsAre (List.replicate n (.int i t)) (List.replicate n i) := by
  induction n with
  | zero => exact .nil
  | succ n ih => exact .cons _ _ ih

section
variable {prog : Program} {w : World} {A : Around} {E : Value → Shared → Prop} {s : Shared} {h₀ h : Heap} {tk : Nat} {L f : Addr} {nm : Str} {scope : Scope} {cd : Value} {ns : List Str} {vs vs' : List (Option Value)} {own own' : Own} {l : Addr} {xs : List Int}

theorem Sc.noInter (sc : Sc scope ns) : interactive (envOf nm scope L f cd) = false := by
  show (scope.kind == .module && _) = false
  rw [sc.kind]; rfl

theorem x_append {x : Str} {p1 ap cp ep : Pos} {e : Expr} {rest : List Stmt} {pl : Sem Bool} {Q : Flow → Shared → Prop} (X : Fx h₀ L h ns vs own) (sc : Sc scope ns) (a : At ns vs x (.ref l)) (hl : Has h l (fun o => ∃ ys k, o = lob ys k))
    (q : wpAny (model prog w) A (eval e (envOf nm scope L f cd)) (fun v s₁ => wpAny (model prog w) A (call (.builtin "list.append") [.ref l, v]) (fun r s₂ => r = .none ∧ wpAny (model prog w) A (execs rest (envOf nm scope L f cd)) Q E s₂) E s₁) E (mk s h tk))
    (he : backTo cp (starEach [e] (envOf nm scope L f cd)) = [(false, eval e (envOf nm scope L f cd))] := by with_unfolding_all rfl)
    (hm : eval (.Call (.Attribute (.Name x p1) "append" ap) [e] [] cp) (envOf nm scope L f cd) = (do
      let ov ← eval (.Name x p1) (envOf nm scope L f cd)
      standAt ap.atName
      let (fn, first) ← holding [ov] (getMethod ov "append" pl)
      callWith cp fn first (backTo cp (starEach [e] (envOf nm scope L f cd))) []) := by with_unfolding_all rfl) :
    wpAny (model prog w) A (execs (.Expr (.Call (.Attribute (.Name x p1) "append" ap) [e] [] cp) ep :: rest) (envOf nm scope L f cd)) Q E (mk s h tk) := by
  obtain ⟨o, ho, ys, k, rfl⟩ := hl
  refine x_expr (MethodCall_ (r_name X sc a (getMethod_list_append ho rfl rfl ?_)) hm) sc.noInter rfl
  rw [he]
  refine callWith_builtin rfl (evalArgs_plain (spliced_cons (wpAny_mono q (fun v s₁ h₁ => spliced_nil ?_) fun _ _ x => x)))
  exact wpAny_mono h₁ (fun r s₂ h₂ => by obtain ⟨rfl, h₂⟩ := h₂; exact h₂) fun _ _ x => x

theorem x_setitem {o i : Expr} {pos' pos : Pos} {value : Expr} {rest : List Stmt} {Q : Flow → Shared → Prop} {env : Env}
    (q : wpAny (model prog w) A (eval value env) (fun v s₁ => wpAny (model prog w) A (eval o env) (fun ov s₂ => wpAny (model prog w) A (eval i env) (fun iv s₃ => wpAny (model prog w) A (setItem ov iv v) (fun _ s₄ => wpAny (model prog w) A (execs rest env) Q E s₄) E s₃) E s₂) E s₁) E s)
    (hs : swapsWith value (some (.Subscript o i pos')) pos.line env = pure false := by with_unfolding_all rfl) : wpAny (model prog w) A (execs (.Assign [.Subscript o i pos'] value pos :: rest) env) Q E s :=
  wpAny_execs_cons (wpAny_Assign_Subscript q hs)

theorem Has.lob (x : Has h l (IL xs)) : Has h l (fun o => ∃ ys k, o = lob ys k) := let ⟨o, e, vs, n, _, r⟩ := x; ⟨o, e, vs, n, r⟩

theorem r_append {i : Int} {t : Tok} {R : Shared → Prop} (X : Fx h₀ L h ns vs own) (r : Rep l (IL xs) (IL (xs ++ [i])) own own') (hz : xs.length ≤ 1000000) (q : ∀ h', Fx h₀ L h' ns vs own' → R (mk s h' tk)) :
    wpAny (model prog w) A (call (.builtin "list.append") [.ref l, .int i t]) (fun r s₂ => r = .none ∧ R s₂) E (mk s h tk) := by
  obtain ⟨ys, n, hi, e⟩ := (X.own_ r.mem).il
  have hp : h.PlainList l ys.toArray := ⟨n, e⟩
  refine wpAny_list_append_plain (s := mk s h tk) hp (fun h' hp' hs => ⟨rfl, q h' (X.upd r hs ?_)⟩) (by rw [List.size_toArray, hi.length]; show _ ≤ 2 ^ 24; omega)
  obtain ⟨n', e'⟩ := hp'
  exact ⟨_, e', ys ++ [.int i t], n', ints_snoc hi i t, by simp [Mine.lob]⟩

theorem r_new0 {Q : Value → Shared → Prop} (X : Fx h₀ L h ns vs own) (q : ∀ a h', Fx h₀ L h' ns vs ((a, IL []) :: own) → Q (.ref a) (mk s h' tk)) : wpAny (model prog w) A (newList []) Q E (mk s h tk) :=
  wpAny_newObj_type (q _ _ (X.push _ ⟨[], 0, .nil, rfl⟩)) (by show (0 : Nat) ≤ 2 ^ 24; decide)
theorem r_new1 {i : Int} {t : Tok} {Q : Value → Shared → Prop} (X : Fx h₀ L h ns vs own) (q : ∀ a h', Fx h₀ L h' ns vs ((a, IL [i]) :: own) → Q (.ref a) (mk s h' tk)) : wpAny (model prog w) A (newList [.int i t]) Q E (mk s h tk) :=
  wpAny_newObj_type (q _ _ (X.push _ ⟨[.int i t], 0, .cons _ _ .nil, rfl⟩)) (by show (1 : Nat) ≤ 2 ^ 24; decide)
theorem r_newtup {ws : List Value} {Q : Value → Shared → Prop} (hz : ws.length ≤ 1000) (X : Fx h₀ L h ns vs own) (q : ∀ a h', Fx h₀ L h' ns vs ((a, TV ws) :: own) → Q (.ref a) (mk s h' tk)) : wpAny (model prog w) A (newTuple ws) Q E (mk s h tk) :=
  wpAny_newObj_type (q _ _ (X.push _ ⟨0, rfl⟩)) (by show ws.toArray.size ≤ 2 ^ 24; rw [List.size_toArray]; omega)

theorem r_list0 {pos : Pos} {Q : Value → Shared → Prop} {env : Env} (q : wpAny (model prog w) A (newList []) Q E s) : wpAny (model prog w) A (eval (.List [] pos) env) Q E s := List_ (spliced_nil q)
theorem r_list1 {e : Expr} {pos : Pos} {Q : Value → Shared → Prop} {env : Env} (q : wpAny (model prog w) A (eval e env) (fun v s₁ => wpAny (model prog w) A (newList [v]) Q E s₁) E s)
    (he : backTo pos (starEach [e] env) = [(false, eval e env)] := by with_unfolding_all rfl) : wpAny (model prog w) A (eval (.List [e] pos) env) Q E s :=
  List_ (by rw [he]; exact spliced_cons (wpAny_mono q (fun v s₁ h₁ => spliced_nil h₁) fun _ _ x => x))
theorem r_tuple2 {e₁ e₂ : Expr} {k : Nat} {pos : Pos} {Q : Value → Shared → Prop} {env : Env} (q : wpAny (model prog w) A (eval e₁ env) (fun v₁ s₁ => wpAny (model prog w) A (eval e₂ env) (fun v₂ s₂ => wpAny (model prog w) A (newTuple [v₁, v₂]) Q E s₂) E s₁) E s)
    (he : backTo pos (starEach [e₁, e₂] env) = [(false, eval e₁ env), (false, eval e₂ env)] := by with_unfolding_all rfl) : wpAny (model prog w) A (eval (.Tuple [e₁, e₂] k pos) env) Q E s :=
  Tuple_ (by rw [he]; exact spliced_cons (wpAny_mono q (fun v₁ s₁ h₁ => spliced_cons (wpAny_mono h₁ (fun v₂ s₂ h₂ => spliced_nil h₂) fun _ _ x => x)) fun _ _ x => x))
end
end Mine
end
section
set_option linter.unusedVariables false
open PySem PySem.Calls PyProof.Rows
namespace Mine

section
variable {h₀ h : Heap} {L : Addr} {ns : List Str} {vs : List (Option Value)}
theorem Fx.adapt {own : Own} (X : Fx h₀ L h ns vs own) : ∃ news, News h₀ L h news ∧ ∀ h', Fr h₀ L h' (fm ns vs) → News h₀ L h' news → Fx h₀ L h' ns vs own := by
  have key : ∀ own : Own, (∀ e ∈ own, Has h e.1 e.2) → (∀ e ∈ own, e.1 ≠ L ∧ h₀.get? e.1 = none) → ∃ news, News h₀ L h news ∧ ∀ h', News h₀ L h' news → ∀ e ∈ own, Has h' e.1 e.2 := by
    intro own
    induction own with
    | nil => intro _ _; exact ⟨[], News.nil, fun _ _ _ he => nomatch he⟩
    | cons e r ih =>
      intro hh ho
      obtain ⟨news, N, k⟩ := ih (fun e he => hh e (.tail _ he)) (fun e he => ho e (.tail _ he))
      obtain ⟨o, eo, hp⟩ := hh e (.head _)
      refine ⟨(e.1, o) :: news, fun p hp => ?_, fun h' N' e' he' => ?_⟩
      · rcases List.mem_cons.mp hp with rfl | hp
        · exact ⟨eo, ho e (.head _)⟩
        · exact N p hp
      · rcases List.mem_cons.mp he' with rfl | he'
        · exact ⟨o, (N' _ (.head _)).1, hp⟩
        · exact k h' (fun p hp => N' p (.tail _ hp)) e' he'
  obtain ⟨news, N, k⟩ := key own X.has X.off
  exact ⟨news, N, fun h' F N' => ⟨F, k h' N', X.off, X.nd, X.len⟩⟩
theorem Fx.adapt1 {own : Own} (X : Fx h₀ L h ns vs own) : ∃ news, News h₀ L h news ∧ ∀ h' o p, Fr h₀ L h' (fm ns vs) → News h₀ L h' ((h.objs.size, o) :: news) → p o → Fx h₀ L h' ns vs ((h.objs.size, p) :: own) := by
  obtain ⟨news, N, k⟩ := X.adapt
  refine ⟨news, N, fun h' o p F N' hp => ?_⟩
  have Y := k h' F (fun q hq => N' q (.tail _ hq))
  refine ⟨F, fun e he => ?_, fun e he => ?_, List.nodup_cons.mpr ⟨fun hm => ?_, X.nd⟩, X.len⟩
  · rcases List.mem_cons.mp he with rfl | he
    · exact ⟨o, (N' _ (.head _)).1, hp⟩
    · exact Y.has e he
  · rcases List.mem_cons.mp he with rfl | he
    · exact (N' _ (.head _)).2
    · exact X.off e he
  · obtain ⟨e, he, z⟩ := List.mem_map.mp hm
    exact absurd (X.has e he).lt (by rw [show e.1 = h.objs.size from z]; exact Nat.lt_irrefl _)
end

theorem il_of {vs : List Value} {xs : List Int} (h : IntsAre vs xs) (arr : Array Value) (e : arr.toList = vs) : IL xs { cls := .type "list", data := .seq arr } :=
  ⟨vs, 0, h, by unfold lob; rw [← e]⟩

section
variable {prog : Program} {w : World} {A : Around} {E : Value → Shared → Prop} {s : Shared} {h₀ h : Heap} {tk : Nat} {L f : Addr} {nm : Str} {scope : Scope} {cd : Value} {ns : List Str} {vs vs' : List (Option Value)} {own own' : Own} {l : Addr} {xs : List Int}

/-- a cut to be made -/
def Cut (prog : Program) (w : World) (A : Around) (value : Expr) (slice : Expr) (o vl vu : Value) (Q : Value → Shared → Prop) (E : Value → Shared → Prop) (s : Shared) : Prop :=
  wpAny (model prog w) A (subscriptTail value slice o (.ref s.heap.objs.size)) Q E { s with heap := s.heap.push { cls := .type "slice", data := .fields #[vl, vu, .none] } }
theorem r_subTo {value e : Expr} {p pos : Pos} {Q : Value → Shared → Prop} {env : Env}
    (q : wpAny (model prog w) A (eval value env) (fun o s₁ => wpAny (model prog w) A (eval e env) (fun vu s₂ => Cut prog w A value (.Slice none (some e) none p) o .none vu Q E s₂) E s₁) E s) :
    wpAny (model prog w) A (eval (.Subscript value (.Slice none (some e) none p) pos) env) Q E s :=
  Subscript_ (wpAny_mono q (fun o s₁ h₁ => wpAny_Slice (evalPart_none_step (evalPart_some_step (wpAny_mono h₁ (fun vu s₂ h₂ => evalPart_none_step h₂) fun _ _ x => x)))) fun _ _ x => x)
theorem r_subAll {value : Expr} {p pos : Pos} {Q : Value → Shared → Prop} {env : Env}
    (q : wpAny (model prog w) A (eval value env) (fun o s₁ => Cut prog w A value (.Slice none none none p) o .none .none Q E s₁) E s) :
    wpAny (model prog w) A (eval (.Subscript value (.Slice none none none p) pos) env) Q E s :=
  Subscript_ (wpAny_mono q (fun o s₁ h₁ => wpAny_Slice (evalPart_none_step (evalPart_none_step (evalPart_none_step h₁)))) fun _ _ x => x)
theorem r_cut {value slice : Expr} {vl vu : Value} {lo hi : Option Int} {ys : List Int} {Q : Value → Shared → Prop} (X : Fx h₀ L h ns vs own) (hl : Has h l (IL xs)) (pl : IsPart vl lo) (pu : IsPart vu hi)
    (hy : ∀ vs, IntsAre vs xs → IntsAre (slicePick vs.toArray lo hi none).toList ys) (hz : xs.length ≤ 1000000)
    (q : ∀ a h', Fx h₀ L h' ns vs ((a, IL ys) :: own) → Q (.ref a) (mk s h' tk))
    (hs : ∀ a, subscripted slice false (.ref l) (.ref a) = operate [.ref a, .ref l] (getItem (.ref l) (.ref a))) :
    Cut prog w A value slice (.ref l) vl vu Q E (mk s h tk) := by
  obtain ⟨ws, hi, hL⟩ := hl.isList
  unfold Cut
  refine tail_any (T := "list") (Heap.IsList.typeIs (s := { mk s h tk with heap := h.push _ }) (hL.push _)) slot_list_getitem.lookup
    (wpAny_getItem_list_slice (hL.push _) (Heap.IsSliceOf.new ..) pl pu .none (by simp) ?_ (by rw [List.size_toArray, hi.length]; show _ ≤ 2 ^ 24; omega)) (hs _)
  refine q _ _ ?_
  have X1 := X.keeps (h' := h.push { cls := .type "slice", data := .fields #[vl, vu, .none] }) fun _ _ e => Heap.get?_push_of_some _ e
  exact X1.push _ (il_of (hy ws hi) _ rfl)
theorem r_cutTo {value e : Expr} {p : Pos} {k : Int} {u : Tok} {Q : Value → Shared → Prop} (X : Fx h₀ L h ns vs own) (hl : Has h l (IL xs)) (h0 : 0 ≤ k) (hk : k ≤ xs.length) (hz : xs.length ≤ 1000000)
    (q : ∀ a h', Fx h₀ L h' ns vs ((a, IL (xs.take k.toNat)) :: own) → Q (.ref a) (mk s h' tk)) :
    Cut prog w A value (.Slice none (some e) none p) (.ref l) .none (.int k u) Q E (mk s h tk) :=
  r_cut X hl .none (.int k u) (fun _ hi => slice_ints_upto hi h0 hk) hz q (fun _ => by with_unfolding_all rfl)
theorem r_cutAll {value : Expr} {p : Pos} {Q : Value → Shared → Prop} (X : Fx h₀ L h ns vs own) (hl : Has h l (IL xs)) (hz : xs.length ≤ 1000000)
    (q : ∀ a h', Fx h₀ L h' ns vs ((a, IL xs) :: own) → Q (.ref a) (mk s h' tk)) :
    Cut prog w A value (.Slice none none none p) (.ref l) .none .none Q E (mk s h tk) :=
  r_cut X hl .none .none (fun _ hi => slice_ints_all hi) hz q (fun _ => by with_unfolding_all rfl)

theorem r_rep {i k : Int} {u : Tok} {Q : Value → Shared → Prop} (X : Fx h₀ L h ns vs own) (hl : Has h l (IL [i])) (h0 : 0 ≤ k) (hk : k ≤ 1000000)
    (q : ∀ a h', Fx h₀ L h' ns vs ((a, IL (List.replicate k.toNat i)) :: own) → Q (.ref a) (mk s h' tk)) :
    wpAny (model prog w) A (binaryOp .Mult (.ref l) (.int k u)) Q E (mk s h tk) := by
  obtain ⟨ws, n, hi, e⟩ := hl.il
  cases hi with
  | cons _ t hi =>
    cases hi
    obtain ⟨news, N, k'⟩ := X.adapt1
    refine mul_list (s := mk s h tk) (m := fm ns vs) X.fr N e (by omega) (by omega) (by simp; omega) fun h' F N => ?_
    refine q _ h' (k' h' _ _ F N ⟨List.replicate k.toNat (.int i t), 0, ints_rep _ _ _, ?_⟩)
    have key : ∀ (n : Nat) (acc : Array Value), List.foldl (fun x1 x2 => x1 ++ x2) acc (List.replicate n [Value.int i t].toArray) = acc ++ (List.replicate n (Value.int i t)).toArray := by
      intro n
      induction n with
      | zero => intro acc; simp
      | succ n ih => intro acc; rw [List.replicate_succ, List.foldl_cons, ih]; apply Array.toList_inj.mp; simp [List.replicate_succ]
    unfold lob
    rw [if_neg (by simp), key]
    simp
end
end Mine
end
section
set_option linter.unusedVariables false
open PySem PySem.Calls PyProof.Rows
namespace Mine

theorem rsize_up (a b : Int) : Builtin.Range.rangeSize a b 1 = ((b - a).toNat : Int) := by
  unfold Builtin.Range.rangeSize
  simp only [show (1 : Int) > 0 by decide, if_true, Int.ediv_one]
  split <;> omega
theorem rsize_down (a b : Int) : Builtin.Range.rangeSize a b (-1) = ((a - b).toNat : Int) := by
  unfold Builtin.Range.rangeSize
  simp only [show ¬ ((-1 : Int) > 0) by decide, if_false, Int.neg_neg, Int.ediv_one]
  split <;> omega
theorem smallDown {a b : Int} (ha : -(2 ^ 62) ≤ a) (ha' : a < 2 ^ 62) (hb : -(2 ^ 62) ≤ b) (hb' : b < 2 ^ 62) : Builtin.Range.small a b (-1) = true := by
  unfold Builtin.Range.small
  rw [rsize_down]
  simp only [Builtin.Range.rangeFitsLong, Bool.and_eq_true, Bool.or_eq_true, decide_eq_true_eq, beq_iff_eq, show ¬ ((-1 : Int) > 0) by decide, if_false]
  omega
theorem smallUp {a b : Int} (ha : -(2 ^ 62) ≤ a) (ha' : a < 2 ^ 62) (hb : -(2 ^ 62) ≤ b) (hb' : b < 2 ^ 62) : Builtin.Range.small a b 1 = true := small_one ha ha' hb hb'

section
variable {prog : Program} {w : World} {A : Around} {s : Shared} {h₀ h : Heap} {tk : Nat} {L f : Addr} {nm : Str} {scope : Scope} {cd : Value} {ns : List Str} {vs vs' : List (Option Value)} {own own' : Own} {rest : List Stmt} {Q : Flow → Shared → Prop}

/-- a for loop about to run over it -/
abbrev Looping (prog : Program) (w : World) (A : Around) (env : Env) (x : Str) (px : Pos) (body rest : List Stmt) (Q : Flow → Shared → Prop) (it : Value) (s : Shared) : Prop :=
  codeAny (model prog w) A (.forLoop (.Name x px) it body [] env)
      (fun r s' => match r with | .ok fl => (match fl with | .next => wpAny (model prog w) A (execs rest env) Q E0 s' | fl => Q fl s') | .error e => cameBackBy (model prog w) A env E0 e s') s

theorem x_for {env : Env} {x : Str} {px pos : Pos} {iter : Expr} {body : List Stmt}
    (q : wpAny (model prog w) A (eval iter env) (fun xv s₁ => wpAny (model prog w) A (pyIter xv) (fun it s₂ => Looping prog w A env x px body rest Q it s₂) E0 s₁) E0 s)
    (hs : ∀ x, foldedSetIterable iter env x = pure x := by intro _; with_unfolding_all rfl) : wpAny (model prog w) A (execs (.For (.Name x px) iter body [] pos :: rest) env) Q E0 s :=
  wpAny_execs_cons (wpAny_For q hs)

theorem it_range {x : Str} {px : Pos} {body : List Stmt} {r : Addr} {a b c : Int} {t u v : Tok} {k : Nat} (hr : IsRange h r a b c t u v) (hsm : Builtin.Range.small a b c = true) (n : Nat) (hn : Builtin.Range.rangeSize a b c = n)
    (hh : A.handled = none) (sc : Sc scope ns) (hx : ns[k]? = some x) (J : Nat → List (Option Value) → Own → Prop) (X : Fx h₀ L h ns vs own) (h0 : J 0 vs own)
    (turn : ∀ i t vs₁ own₁ h tk it, i < n → J i vs₁ own₁ → Fx h₀ L h ns (vs₁.set k (some (.int (a + i * c) t))) (it :: own₁) →
      wpAny (model prog w) A (execs body (envOf nm scope L f cd)) (Turn s h₀ L ns [it] (J (i + 1)) Q (fun s' => wpAny (model prog w) A (execs rest (envOf nm scope L f cd)) Q E0 s')) E0 (mk s h tk))
    (done : ∀ vs₁ own₁ h tk, J n vs₁ own₁ → Fx h₀ L h ns vs₁ own₁ → wpAny (model prog w) A (execs rest (envOf nm scope L f cd)) Q E0 (mk s h tk)) :
    wpAny (model prog w) A (pyIter (.ref r)) (fun it s₂ => Looping prog w A (envOf nm scope L f cd) x px body rest Q it s₂) E0 (mk s h tk) := by
  refine wpAny_pyIter_range (s := mk s h tk) hr hsm ?_
  refine it_walk (tk := tk) (Walks.range hh h.objs.size a c n) sc hx (fun b hb hne => absurd (List.mem_singleton.mp hb) hne) (fun i h st => ⟨_, st⟩) J (X.push _ trivial) ?_ h0 ?_ done
  · have e1 : (a + ((0 : Nat) : Int) * c) = a := by simp
    have e2 : ((n : Int) - ((0 : Nat) : Int)) = Builtin.Range.rangeSize a b c := by rw [hn]; simp
    rw [e1, e2]
    exact Heap.get?_push_size _ rfl
  · rintro i v vs₁ own₁ h tk it hi ⟨t, rfl⟩ j X
    exact turn i t vs₁ own₁ h tk it hi j X

theorem r_range1 {x : Str} {px : Pos} {body : List Stmt} {b : Int} {t : Tok} {k : Nat} (hb : -(2 ^ 62) ≤ b) (hb' : b < 2 ^ 62)
    (hh : A.handled = none) (sc : Sc scope ns) (hx : ns[k]? = some x) (J : Nat → List (Option Value) → Own → Prop) (X : Fx h₀ L h ns vs own) (h0 : J 0 vs own)
    (turn : ∀ (i : Nat) t vs₁ own₁ h tk it, i < b.toNat → J i vs₁ own₁ → Fx h₀ L h ns (vs₁.set k (some (.int i t))) (it :: own₁) →
      wpAny (model prog w) A (execs body (envOf nm scope L f cd)) (Turn s h₀ L ns [it] (J (i + 1)) Q (fun s' => wpAny (model prog w) A (execs rest (envOf nm scope L f cd)) Q E0 s')) E0 (mk s h tk))
    (done : ∀ vs₁ own₁ h tk, J b.toNat vs₁ own₁ → Fx h₀ L h ns vs₁ own₁ → wpAny (model prog w) A (execs rest (envOf nm scope L f cd)) Q E0 (mk s h tk)) :
    wpAny (model prog w) A (call (.type "range") [.int b t]) (fun xv s₁ => wpAny (model prog w) A (pyIter xv) (fun it s₂ => Looping prog w A (envOf nm scope L f cd) x px body rest Q it s₂) E0 s₁) E0 (mk s h tk) := by
  refine call_range_1 (s := mk s h tk) ?_
  refine it_range (h := h.push _) (tk := tk + 1 + 1) (IsRange.new ..) (smallUp (by decide) (by decide) hb hb') b.toNat (by rw [rsize_up]; simp) hh sc hx J (X.keeps fun _ _ e => Heap.get?_push_of_some _ e) h0 ?_ done
  intro i t vs₁ own₁ h tk it hi j X
  have e : (0 + (i : Int) * 1) = i := by omega
  rw [e] at X
  exact turn i t vs₁ own₁ h tk it hi j X

theorem r_range2 {x : Str} {px : Pos} {body : List Stmt} {a b : Int} {t u : Tok} {k : Nat} (ha : -(2 ^ 62) ≤ a) (ha' : a < 2 ^ 62) (hb : -(2 ^ 62) ≤ b) (hb' : b < 2 ^ 62)
    (hh : A.handled = none) (sc : Sc scope ns) (hx : ns[k]? = some x) (J : Nat → List (Option Value) → Own → Prop) (X : Fx h₀ L h ns vs own) (h0 : J 0 vs own)
    (turn : ∀ (i : Nat) t vs₁ own₁ h tk it, i < (b - a).toNat → J i vs₁ own₁ → Fx h₀ L h ns (vs₁.set k (some (.int (a + i) t))) (it :: own₁) →
      wpAny (model prog w) A (execs body (envOf nm scope L f cd)) (Turn s h₀ L ns [it] (J (i + 1)) Q (fun s' => wpAny (model prog w) A (execs rest (envOf nm scope L f cd)) Q E0 s')) E0 (mk s h tk))
    (done : ∀ vs₁ own₁ h tk, J (b - a).toNat vs₁ own₁ → Fx h₀ L h ns vs₁ own₁ → wpAny (model prog w) A (execs rest (envOf nm scope L f cd)) Q E0 (mk s h tk)) :
    wpAny (model prog w) A (call (.type "range") [.int a t, .int b u]) (fun xv s₁ => wpAny (model prog w) A (pyIter xv) (fun it s₂ => Looping prog w A (envOf nm scope L f cd) x px body rest Q it s₂) E0 s₁) E0 (mk s h tk) := by
  refine call_range_2 (s := mk s h tk) ?_
  refine it_range (h := h.push _) (tk := tk + 1) (IsRange.new ..) (smallUp ha ha' hb hb') (b - a).toNat (rsize_up a b) hh sc hx J (X.keeps fun _ _ e => Heap.get?_push_of_some _ e) h0 ?_ done
  intro i t vs₁ own₁ h tk it hi j X
  rw [Int.mul_one] at X
  exact turn i t vs₁ own₁ h tk it hi j X

theorem r_rangeDown {x : Str} {px : Pos} {body : List Stmt} {a b : Int} {t u v : Tok} {k : Nat} (ha : -(2 ^ 62) ≤ a) (ha' : a < 2 ^ 62) (hb : -(2 ^ 62) ≤ b) (hb' : b < 2 ^ 62)
    (hh : A.handled = none) (sc : Sc scope ns) (hx : ns[k]? = some x) (J : Nat → List (Option Value) → Own → Prop) (X : Fx h₀ L h ns vs own) (h0 : J 0 vs own)
    (turn : ∀ (i : Nat) t vs₁ own₁ h tk it, i < (a - b).toNat → J i vs₁ own₁ → Fx h₀ L h ns (vs₁.set k (some (.int (a - i) t))) (it :: own₁) →
      wpAny (model prog w) A (execs body (envOf nm scope L f cd)) (Turn s h₀ L ns [it] (J (i + 1)) Q (fun s' => wpAny (model prog w) A (execs rest (envOf nm scope L f cd)) Q E0 s')) E0 (mk s h tk))
    (done : ∀ vs₁ own₁ h tk, J (a - b).toNat vs₁ own₁ → Fx h₀ L h ns vs₁ own₁ → wpAny (model prog w) A (execs rest (envOf nm scope L f cd)) Q E0 (mk s h tk)) :
    wpAny (model prog w) A (call (.type "range") [.int a t, .int b u, .int (-1) v]) (fun xv s₁ => wpAny (model prog w) A (pyIter xv) (fun it s₂ => Looping prog w A (envOf nm scope L f cd) x px body rest Q it s₂) E0 s₁) E0 (mk s h tk) := by
  refine call_range_3 (s := mk s h tk) (by decide) ?_ (.inl (PyProof.noPylong_small (by decide)))
  refine it_range (h := h.push _) (tk := tk) (IsRange.new ..) (smallDown ha ha' hb hb') (a - b).toNat (rsize_down a b) hh sc hx J (X.keeps fun _ _ e => Heap.get?_push_of_some _ e) h0 ?_ done
  intro i t vs₁ own₁ h tk it hi j X
  have e : a + (i : Int) * -1 = a - i := by omega
  rw [e] at X
  exact turn i t vs₁ own₁ h tk it hi j X

theorem it_list {x : Str} {px : Pos} {body : List Stmt} {l : Addr} {xs : List Int} {k : Nat} (hl : Has h₀ l (IL xs))
    (hh : A.handled = none) (sc : Sc scope ns) (hx : ns[k]? = some x) (J : Nat → List (Option Value) → Own → Prop) (X : Fx h₀ L h ns vs own) (h0 : J 0 vs own)
    (turn : ∀ (i : Nat) t vs₁ own₁ h tk it, i < xs.length → J i vs₁ own₁ → Fx h₀ L h ns (vs₁.set k (some (.int (xs.getD i 0) t))) (it :: own₁) →
      wpAny (model prog w) A (execs body (envOf nm scope L f cd)) (Turn s h₀ L ns [it] (J (i + 1)) Q (fun s' => wpAny (model prog w) A (execs rest (envOf nm scope L f cd)) Q E0 s')) E0 (mk s h tk))
    (done : ∀ vs₁ own₁ h tk, J xs.length vs₁ own₁ → Fx h₀ L h ns vs₁ own₁ → wpAny (model prog w) A (execs rest (envOf nm scope L f cd)) Q E0 (mk s h tk)) :
    wpAny (model prog w) A (pyIter (.ref l)) (fun it s₂ => Looping prog w A (envOf nm scope L f cd) x px body rest Q it s₂) E0 (mk s h tk) := by
  obtain ⟨ws, n, hi, e₀⟩ := hl.il
  have e : h.get? l = some (lob ws n) := X.fr.keep _ _ e₀
  have hL : h.IsList l ws.toArray := ⟨_, e, rfl, n, rfl⟩
  have hne : l ≠ h.objs.size := Nat.ne_of_lt (Heap.lt_size e)
  refine wpAny_pyIter_list (s := mk s h tk) hL ?_
  have W := Walks.list (prog := prog) (w := w) hh h.objs.size l hne ws.toArray
  have hlen : ws.toArray.size = xs.length := by simp [hi.length]
  rw [hlen] at W
  refine it_walk (tk := tk) W sc hx (fun b hb hbne => ?_) (fun i h st => let ⟨o, ho, _⟩ := st.1; ⟨o, ho⟩) J (X.push _ trivial) ⟨⟨_, Heap.get?_push_size _ rfl, rfl, rfl⟩, hL.push _⟩ h0 ?_ done
  · rcases List.mem_cons.mp hb with z | hb
    · exact absurd z hbne
    · rw [List.mem_singleton.mp hb]; exact ⟨_, e₀⟩
  · rintro i v vs₁ own₁ h tk it hlt hv j X
    obtain ⟨t, ht⟩ := hi.get i (xs.getD i 0) (by simp [List.getD, hlt])
    have hv' : ws[i]? = some v := by simpa using hv
    rw [ht] at hv'
    cases hv'
    exact turn i t vs₁ own₁ h tk it hlt j X
end

section
variable {prog : Program} {w : World} {A : Around} {E : Value → Shared → Prop} {s : Shared} {h₀ h : Heap} {tk : Nat} {L f : Addr} {nm : Str} {scope : Scope} {cd : Value} {ns : List Str} {vs vs' : List (Option Value)} {own own' : Own} {l : Addr} {xs : List Int}

theorem r_cat {b : Addr} {ys : List Int} {Q : Value → Shared → Prop} (X : Fx h₀ L h ns vs own) (hl : Has h l (IL xs)) (hb : Has h b (IL ys)) (hz : xs.length + ys.length ≤ 1000000)
    (q : ∀ a h', Fx h₀ L h' ns vs ((a, IL (xs ++ ys)) :: own) → Q (.ref a) (mk s h' tk)) : wpAny (model prog w) A (binaryOp .Add (.ref l) (.ref b)) Q E (mk s h tk) := by
  obtain ⟨ws, hi, hL⟩ := hl.isList
  obtain ⟨us, hj, hB⟩ := hb.isList
  obtain ⟨news, N, k⟩ := X.adapt1
  exact add_lists (s := mk s h tk) (m := fm ns vs) X.fr N hL hB (fun h' F N' => q _ h' (k h' _ _ F N' ⟨ws ++ us, 0, hi.append hj, rfl⟩)) (by rw [hi.length, hj.length]; show _ ≤ 2 ^ 24; omega)

def Gv (G B : Str → Option Value) (x : Str) (v : Value) : Prop := G x = some v ∨ (G x = none ∧ B x = some v)
structure Wd (T : List (Str × Value)) (K : List (Addr × Obj)) (h : Heap) : Prop where
  gl : ∃ G B, h.Ns mainGlobals G ∧ h.Ns builtinsNs B ∧ ∀ p ∈ T, Gv G B p.1 p.2
  nl : h.NoLimit
  kx : ∀ a o, K.lookup a = some o → h.get? a = some o
theorem Wd.keeps {T : List (Str × Value)} {K : List (Addr × Obj)} {h' : Heap} (W : Wd T K h) (k : ∀ b o, h.get? b = some o → h'.get? b = some o) : Wd T K h' :=
  ⟨let ⟨G, B, g, b, r⟩ := W.gl; ⟨G, B, g.keeps k, b.keeps k, r⟩, W.nl.keeps k, fun a o e => k _ _ (W.kx a o e)⟩

structure Gs (scope : Scope) (gs : List Str) : Prop where
  glo : ∀ x ∈ gs, scope.names.lookup x = some .globalImplicit
  dbg : ∀ x ∈ gs, (x == ("__debug__" : Str)) = false

theorem r_glob {T : List (Str × Value)} {K : List (Addr × Obj)} {M : Model} {gs : List Str} {x : Str} {pos : Pos} {v : Value} {Q : Value → Shared → Prop} (X : Fx h₀ L h ns vs own) (W : Wd T K h₀) (sc : Sc scope ns) (g : Gs scope gs) (m : x ∈ gs) (t : (x, v) ∈ T) (q : Q v (mk s h tk)) :
    wpAny M A (eval (.Name x pos) (envOf nm scope L f cd)) Q E (mk s h tk) := by
  obtain ⟨G, B, hg, hb, r⟩ := (W.keeps X.fr.keep).gl
  refine Name_function_global sc.kind (g.glo _ m) ?_ (g.dbg _ m)
  rcases r _ t with z | ⟨z, z'⟩
  · exact loadGlobal_global hg z q
  · exact loadGlobal_builtin hg z hb z' q

/-- a call of a def, the def still there -/
def CallF (prog : Program) (w : World) (A : Around) (f : Addr) (args : List Value) (Q E : Value → Shared → Prop) (s : Shared) : Prop :=
  (∃ o fd, s.heap.get? f = some o ∧ o.data = .func fd) ∧ wpAny (model prog w) A (call (.ref f) args) Q E s
section
variable {env : Env} {s : Shared} {id : Str} {p pos : Pos} {Q : Value → Shared → Prop} {e₁ e₂ e₃ e₄ : Expr}
theorem callF_ {args : List (Bool × Sem Value)} (q : wpAny (model prog w) A (evalArgs (.ref f) true args []) (fun a s₁ => a.kw = [] ∧ CallF prog w A f a.pos Q E s₁) E s) : wpAny (model prog w) A (callWith pos (.ref f) [] args []) Q E s := by
  unfold callWith
  refine wpAny_bind (wpAny_holding (wpAny_mono q (fun a s₁ h₁ => wpAny_bind (wpAny_standAt ?_)) fun _ _ x => x))
  obtain ⟨hkw, ⟨o, fd, ho, hd⟩, hc⟩ := h₁
  have tail : ∀ {t : Sem Value}, wpAny (model prog w) A t Q E s₁ → wpAny (model prog w) A (t >>= fun r => holding [r] point >>= fun _ => pure r) Q E s₁ :=
    fun ht => wpAny_bind (wpAny_mono ht (fun r s₂ hr => wpAny_bind (wpAny_holding (wpAny_point (wpAny_pure hr)))) fun _ _ x => x)
  have mk : ∀ m, wpAny (model prog w) A (callMarked m (.ref f) a.pos a.kw) Q E s₁ := fun m => by unfold callMarked; rw [hkw]; exact wpAny_keep hc
  have hc' : wpAny (model prog w) A (call (.ref f) a.pos a.kw) Q E s₁ := by rw [hkw]; exact hc
  cases hs : args.any (·.1) <;> simp only [List.any_nil, Bool.or_false] <;>
    refine wpAny_bind (m := keeperOf (.ref f)) ?_ <;> unfold keeperOf <;>
    refine wpAny_bind (wpAny_load ho ?_) <;> rw [hd] <;> refine wpAny_pure ?_
  · first
      | exact tail hc'
      | exact tail (mk _)
      | (refine wpAny_ite ?_; split <;> first | exact tail hc' | exact tail (mk _))
      | (split <;> first | exact tail hc' | exact tail (mk _))
  · first
      | exact tail (mk _)
      | exact tail hc'
theorem r_call1 (q : wpAny (model prog w) A (eval (.Name id p) env) (fun fv s₀ => fv = .ref f ∧ wpAny (model prog w) A (eval e₁ env) (fun v₁ s₁ => CallF prog w A f [v₁] Q E s₁) E s₀) E s)
    (he : backTo pos (starEach [e₁] env) = [(false, eval e₁ env)] := by with_unfolding_all rfl) : wpAny (model prog w) A (eval (.Call (.Name id p) [e₁] [] pos) env) Q E s := by
  refine wpAny_Call_NameR (wpAny_mono q (fun fv s₀ h₀ => ?_) fun _ _ x => x)
  obtain ⟨rfl, h₀⟩ := h₀
  rw [he]
  exact callF_ (evalArgs_plain (spliced_cons (wpAny_mono h₀ (fun v₁ s₁ h₁ => spliced_nil ⟨rfl, h₁⟩) fun _ _ x => x)))
theorem r_call2 (q : wpAny (model prog w) A (eval (.Name id p) env) (fun fv s₀ => fv = .ref f ∧ wpAny (model prog w) A (eval e₁ env) (fun v₁ s₁ => wpAny (model prog w) A (eval e₂ env) (fun v₂ s₂ => CallF prog w A f [v₁, v₂] Q E s₂) E s₁) E s₀) E s)
    (he : backTo pos (starEach [e₁, e₂] env) = [(false, eval e₁ env), (false, eval e₂ env)] := by with_unfolding_all rfl) : wpAny (model prog w) A (eval (.Call (.Name id p) [e₁, e₂] [] pos) env) Q E s := by
  refine wpAny_Call_NameR (wpAny_mono q (fun fv s₀ h₀ => ?_) fun _ _ x => x)
  obtain ⟨rfl, h₀⟩ := h₀
  rw [he]
  exact callF_ (evalArgs_plain (spliced_cons (wpAny_mono h₀ (fun v₁ s₁ h₁ => spliced_cons (wpAny_mono h₁ (fun v₂ s₂ h₂ => spliced_nil ⟨rfl, h₂⟩) fun _ _ x => x)) fun _ _ x => x)))
theorem r_call3 (q : wpAny (model prog w) A (eval (.Name id p) env) (fun fv s₀ => fv = .ref f ∧ wpAny (model prog w) A (eval e₁ env) (fun v₁ s₁ => wpAny (model prog w) A (eval e₂ env) (fun v₂ s₂ => wpAny (model prog w) A (eval e₃ env) (fun v₃ s₃ => CallF prog w A f [v₁, v₂, v₃] Q E s₃) E s₂) E s₁) E s₀) E s)
    (he : backTo pos (starEach [e₁, e₂, e₃] env) = [(false, eval e₁ env), (false, eval e₂ env), (false, eval e₃ env)] := by with_unfolding_all rfl) : wpAny (model prog w) A (eval (.Call (.Name id p) [e₁, e₂, e₃] [] pos) env) Q E s := by
  refine wpAny_Call_NameR (wpAny_mono q (fun fv s₀ h₀ => ?_) fun _ _ x => x)
  obtain ⟨rfl, h₀⟩ := h₀
  rw [he]
  exact callF_ (evalArgs_plain (spliced_cons (wpAny_mono h₀ (fun v₁ s₁ h₁ => spliced_cons (wpAny_mono h₁ (fun v₂ s₂ h₂ => spliced_cons (wpAny_mono h₂ (fun v₃ s₃ h₃ => spliced_nil ⟨rfl, h₃⟩) fun _ _ x => x)) fun _ _ x => x)) fun _ _ x => x)))
theorem r_call4 (q : wpAny (model prog w) A (eval (.Name id p) env) (fun fv s₀ => fv = .ref f ∧ wpAny (model prog w) A (eval e₁ env) (fun v₁ s₁ => wpAny (model prog w) A (eval e₂ env) (fun v₂ s₂ => wpAny (model prog w) A (eval e₃ env) (fun v₃ s₃ => wpAny (model prog w) A (eval e₄ env) (fun v₄ s₄ => CallF prog w A f [v₁, v₂, v₃, v₄] Q E s₄) E s₃) E s₂) E s₁) E s₀) E s)
    (he : backTo pos (starEach [e₁, e₂, e₃, e₄] env) = [(false, eval e₁ env), (false, eval e₂ env), (false, eval e₃ env), (false, eval e₄ env)] := by with_unfolding_all rfl) : wpAny (model prog w) A (eval (.Call (.Name id p) [e₁, e₂, e₃, e₄] [] pos) env) Q E s := by
  refine wpAny_Call_NameR (wpAny_mono q (fun fv s₀ h₀ => ?_) fun _ _ x => x)
  obtain ⟨rfl, h₀⟩ := h₀
  rw [he]
  exact callF_ (evalArgs_plain (spliced_cons (wpAny_mono h₀ (fun v₁ s₁ h₁ => spliced_cons (wpAny_mono h₁ (fun v₂ s₂ h₂ => spliced_cons (wpAny_mono h₂ (fun v₃ s₃ h₃ => spliced_cons (wpAny_mono h₃ (fun v₄ s₄ h₄ => spliced_nil ⟨rfl, h₄⟩) fun _ _ x => x)) fun _ _ x => x)) fun _ _ x => x)) fun _ _ x => x)))
/-- built-ins and types by name -/
theorem r_callB1 {id' : String} (q : wpAny (model prog w) A (eval (.Name id p) env) (fun fv s₀ => fv = .builtin id' ∧ wpAny (model prog w) A (eval e₁ env) (fun v₁ s₁ => wpAny (model prog w) A (call (.builtin id') [v₁]) Q E s₁) E s₀) E s)
    (he : backTo pos (starEach [e₁] env) = [(false, eval e₁ env)] := by with_unfolding_all rfl) : wpAny (model prog w) A (eval (.Call (.Name id p) [e₁] [] pos) env) Q E s := by
  refine wpAny_Call_NameR (wpAny_mono q (fun fv s₀ h₀ => ?_) fun _ _ x => x)
  obtain ⟨rfl, h₀⟩ := h₀
  rw [he]
  exact callWith_builtin rfl (evalArgs_plain (spliced_cons (wpAny_mono h₀ (fun v₁ s₁ h₁ => spliced_nil h₁) fun _ _ x => x)))
theorem r_callB2 {id' : String} (q : wpAny (model prog w) A (eval (.Name id p) env) (fun fv s₀ => fv = .builtin id' ∧ wpAny (model prog w) A (eval e₁ env) (fun v₁ s₁ => wpAny (model prog w) A (eval e₂ env) (fun v₂ s₂ => wpAny (model prog w) A (call (.builtin id') [v₁, v₂]) Q E s₂) E s₁) E s₀) E s)
    (he : backTo pos (starEach [e₁, e₂] env) = [(false, eval e₁ env), (false, eval e₂ env)] := by with_unfolding_all rfl) : wpAny (model prog w) A (eval (.Call (.Name id p) [e₁, e₂] [] pos) env) Q E s := by
  refine wpAny_Call_NameR (wpAny_mono q (fun fv s₀ h₀ => ?_) fun _ _ x => x)
  obtain ⟨rfl, h₀⟩ := h₀
  rw [he]
  exact callWith_builtin rfl (evalArgs_plain (spliced_cons (wpAny_mono h₀ (fun v₁ s₁ h₁ => spliced_cons (wpAny_mono h₁ (fun v₂ s₂ h₂ => spliced_nil h₂) fun _ _ x => x)) fun _ _ x => x)))
theorem r_callT1 {id' : String} (q : wpAny (model prog w) A (eval (.Name id p) env) (fun fv s₀ => fv = .type id' ∧ wpAny (model prog w) A (eval e₁ env) (fun v₁ s₁ => wpAny (model prog w) A (call (.type id') [v₁]) Q E s₁) E s₀) E s)
    (he : backTo pos (starEach [e₁] env) = [(false, eval e₁ env)] := by with_unfolding_all rfl) : wpAny (model prog w) A (eval (.Call (.Name id p) [e₁] [] pos) env) Q E s := by
  refine wpAny_Call_NameR (wpAny_mono q (fun fv s₀ h₀ => ?_) fun _ _ x => x)
  obtain ⟨rfl, h₀⟩ := h₀
  rw [he]
  exact PyProof.Rows.callWith_type rfl (evalArgs_plain (spliced_cons (wpAny_mono h₀ (fun v₁ s₁ h₁ => spliced_nil h₁) fun _ _ x => x)))
theorem r_callT2 {id' : String} (q : wpAny (model prog w) A (eval (.Name id p) env) (fun fv s₀ => fv = .type id' ∧ wpAny (model prog w) A (eval e₁ env) (fun v₁ s₁ => wpAny (model prog w) A (eval e₂ env) (fun v₂ s₂ => wpAny (model prog w) A (call (.type id') [v₁, v₂]) Q E s₂) E s₁) E s₀) E s)
    (he : backTo pos (starEach [e₁, e₂] env) = [(false, eval e₁ env), (false, eval e₂ env)] := by with_unfolding_all rfl) : wpAny (model prog w) A (eval (.Call (.Name id p) [e₁, e₂] [] pos) env) Q E s := by
  refine wpAny_Call_NameR (wpAny_mono q (fun fv s₀ h₀ => ?_) fun _ _ x => x)
  obtain ⟨rfl, h₀⟩ := h₀
  rw [he]
  exact PyProof.Rows.callWith_type rfl (evalArgs_plain (spliced_cons (wpAny_mono h₀ (fun v₁ s₁ h₁ => spliced_cons (wpAny_mono h₁ (fun v₂ s₂ h₂ => spliced_nil h₂) fun _ _ x => x)) fun _ _ x => x)))
theorem r_callT3 {id' : String} (q : wpAny (model prog w) A (eval (.Name id p) env) (fun fv s₀ => fv = .type id' ∧ wpAny (model prog w) A (eval e₁ env) (fun v₁ s₁ => wpAny (model prog w) A (eval e₂ env) (fun v₂ s₂ => wpAny (model prog w) A (eval e₃ env) (fun v₃ s₃ => wpAny (model prog w) A (call (.type id') [v₁, v₂, v₃]) Q E s₃) E s₂) E s₁) E s₀) E s)
    (he : backTo pos (starEach [e₁, e₂, e₃] env) = [(false, eval e₁ env), (false, eval e₂ env), (false, eval e₃ env)] := by with_unfolding_all rfl) : wpAny (model prog w) A (eval (.Call (.Name id p) [e₁, e₂, e₃] [] pos) env) Q E s := by
  refine wpAny_Call_NameR (wpAny_mono q (fun fv s₀ h₀ => ?_) fun _ _ x => x)
  obtain ⟨rfl, h₀⟩ := h₀
  rw [he]
  exact PyProof.Rows.callWith_type rfl (evalArgs_plain (spliced_cons (wpAny_mono h₀ (fun v₁ s₁ h₁ => spliced_cons (wpAny_mono h₁ (fun v₂ s₂ h₂ => spliced_cons (wpAny_mono h₂ (fun v₃ s₃ h₃ => spliced_nil h₃) fun _ _ x => x)) fun _ _ x => x)) fun _ _ x => x)))
end
end
end Mine
end
section
set_option linter.unusedVariables false
open PySem PySem.Calls PyProof.Rows
namespace Mine

/-- room for d more frames -/
structure AOk (A : Around) (d : Nat) : Prop where
  handled : A.handled = none
  depth : A.depth + d < recursionLimit
  units : A.units + 8 * d < 1000
theorem AOk.mono {A : Around} {d e : Nat} (a : AOk A d) (h : e ≤ d) : AOk A e := ⟨a.handled, by have := a.depth; omega, by have := a.units; omega⟩
theorem AOk.in1 {A : Around} {d : Nat} (a : AOk A (d + 1)) : AOk A.in1 d := ⟨a.handled, by have := a.depth; show A.depth + d < _; omega, by have := a.units; show A.units + 1 + _ < _; omega⟩
theorem AOk.deeper {A : Around} {d : Nat} {env : Env} (a : AOk A (d + 1)) : AOk (A.deeper env) d :=
  ⟨a.handled, by have := a.depth; show A.depth + 1 + d < _; omega, by have := a.units; show A.units + 3 + _ < _; omega⟩

def RetQ (Q : Value → Shared → Prop) (fl : Flow) (s : Shared) : Prop := Q (match fl with | .ret v => v | _ => .none) s

/-- parameters beside arguments, then the other names -/
inductive Ent : List (Str × Value) → List Str → List (Option Value) → Prop
  | nil : Ent [] [] []
  | skip {x ns vs} : Ent [] ns vs → Ent [] (x :: ns) (none :: vs)
  | cons {x v r ns vs} : Ent r ns vs → Ent ((x, v) :: r) (x :: ns) (some v :: vs)
theorem Ent.names {b : List (Str × Value)} {ns : List Str} {vs : List (Option Value)} (h : Ent b ns vs) : ∀ p ∈ b, p.1 ∈ ns := by
  induction h with
  | nil => intro p hp; cases hp
  | skip => intro p hp; cases hp
  | cons h ih =>
    intro p hp
    rcases List.mem_cons.mp hp with rfl | hp
    · exact .head _
    · exact .tail _ (ih p hp)
theorem Ent.len {b : List (Str × Value)} {ns : List Str} {vs : List (Option Value)} (h : Ent b ns vs) : vs.length = ns.length := by
  induction h with
  | nil => rfl
  | skip _ ih => simp [ih]
  | cons _ ih => simp [ih]
theorem Ent.eq {b : List (Str × Value)} {ns : List Str} {vs : List (Option Value)} (h : Ent b ns vs) (nd : ns.Nodup) : (fun x => b.reverse.lookup x) = fm ns vs := by
  induction h with
  | nil => funext y; rfl
  | @skip x ns vs h ih =>
    have ih := ih (List.nodup_cons.mp nd).2
    funext y
    have e := congrFun ih y
    show none = (if y = x then none else fm ns vs y)
    rw [← e]; split <;> rfl
  | @cons x v r ns vs h ih =>
    have ih := ih (List.nodup_cons.mp nd).2
    funext y
    have e := congrFun ih y
    simp only [List.reverse_cons, List.lookup_append, fm] at e ⊢
    by_cases hy : y = x
    · subst hy
      have hno : r.reverse.lookup y = none := by
        rw [List.lookup_eq_none_iff]
        intro p hp
        have := h.names p (List.mem_reverse.mp hp)
        have hne : y ≠ p.1 := fun z => (List.nodup_cons.mp nd).1 (z ▸ this)
        simpa using hne
      rw [hno]
      simp
    · rw [e, if_neg hy]
      have : (y == x) = false := by simpa using hy
      simp [List.lookup, this]

section
variable {prog : Program} {w : World} {A : Around} {E : Value → Shared → Prop} {s : Shared} {h : Heap} {tk : Nat} {f : Addr} {nm : Str} {scope : Scope} {cd : Value} {ns : List Str} {vs : List (Option Value)}

theorem enter {fd : FuncData} {o : Obj} {body : List Stmt} {args : List Value} {binds : List (Str × Value)} {Q : Value → Shared → Prop} {d : Nat} (ao : AOk A (d + 1)) (ho : h.get? f = some o) (hd : o.data = .func fd) (hcd : h.CodeRec fd.code fd.qualname) (hlim : h.NoLimit)
    (henv : ∀ L, callEnv fd L f = envOf nm scope L f cd) (hbody : fd.body = .stmts body) (hbind : bindArgs fd ⟨args, []⟩ = pure binds) (hcell : ∀ x ∈ scope.names, x.2 ≠ .cell) (hgen : scope.isGenerator = false) (hco : scope.isCoroutine = false)
    (sc : Sc scope ns) (en : Ent binds ns vs)
    (q : ∀ L h₁ tk', Fx h L h₁ ns vs [] → AOk (A.deeper (envOf nm scope L f cd)) d → wpAny (model prog w) (A.deeper (envOf nm scope L f cd)) (execs body (envOf nm scope L f cd)) (RetQ Q) E0 (mk s h₁ tk')) :
    CallF prog w A f args Q E (mk s h tk) := by
  have hsc : fd.scope = scope := by
    have := congrArg Env.scope (henv 0)
    exact this
  refine ⟨⟨o, fd, ho, hd⟩, wpAny_call (codeAny_call_def (s := mk s h tk) (fd := fd) (body := body) (binds := binds) (by have := ao.depth; omega) ho hd hlim hcd hbody (.of_eq hbind) (by rw [hsc]; exact hcell)
    (fun x hx => by rw [hsc]; exact sc.loc _ (en.names x hx)) (fun h₁ hns hk => ?_) (by rw [hsc]; exact hco) (by rw [hsc]; exact hgen) (by rw [hsc]; exact sc.kind))⟩
  rw [henv]
  have X : Fx h h.objs.size h₁ ns vs [] := ⟨⟨en.eq sc.nd ▸ hns, hk, Nat.le_refl _⟩, (fun _ h => nomatch h), (fun _ h => nomatch h), by simp, en.len⟩
  exact wpAny_mono (q _ h₁ _ X ao.deeper) (fun fl s' hq => hq) fun _ _ x => x.elim
end
end Mine
end
section
set_option linter.unusedVariables false
open PySem PySem.Calls PyProof.Rows
namespace Mine
theorem if_tt {P Q : Prop} (h : P) : if true = true then P else Q := by rw [if_pos rfl]; exact h
theorem if_ff {P Q : Prop} (h : Q) : if false = true then P else Q := by rw [if_neg Bool.false_ne_true]; exact h
section
variable {prog : Program} {w : World} {A : Around} {E : Value → Shared → Prop} {s : Shared} {h₀ h : Heap} {tk : Nat} {L f fn : Addr} {nm : Str} {scope : Scope} {cd : Value} {ns gs : List Str} {vs vs' : List (Option Value)} {own own' : Own}
  {T : List (Str × Value)} {K : List (Addr × Obj)} {id : Str} {p pos : Pos} {Q : Value → Shared → Prop} {e₁ e₂ e₃ e₄ : Expr} {bi : String}
theorem rc1 (X : Fx h₀ L h ns vs own) (W : Wd T K h₀) (sc : Sc scope ns) (g : Gs scope gs) (m : id ∈ gs) (t : (id, .ref fn) ∈ T)
    (q : wpAny (model prog w) A (eval e₁ (envOf nm scope L f cd)) (fun v₁ s₁ => CallF prog w A fn [v₁] Q E s₁) E (mk s h tk))
    (he : backTo pos (starEach [e₁] (envOf nm scope L f cd)) = [(false, eval e₁ (envOf nm scope L f cd))] := by with_unfolding_all rfl) :
    wpAny (model prog w) A (eval (.Call (.Name id p) [e₁] [] pos) (envOf nm scope L f cd)) Q E (mk s h tk) := r_call1 (r_glob X W sc g m t ⟨rfl, q⟩) he
theorem rc2 (X : Fx h₀ L h ns vs own) (W : Wd T K h₀) (sc : Sc scope ns) (g : Gs scope gs) (m : id ∈ gs) (t : (id, .ref fn) ∈ T)
    (q : wpAny (model prog w) A (eval e₁ (envOf nm scope L f cd)) (fun v₁ s₁ => wpAny (model prog w) A (eval e₂ (envOf nm scope L f cd)) (fun v₂ s₂ => CallF prog w A fn [v₁, v₂] Q E s₂) E s₁) E (mk s h tk))
    (he : backTo pos (starEach [e₁, e₂] (envOf nm scope L f cd)) = [(false, eval e₁ (envOf nm scope L f cd)), (false, eval e₂ (envOf nm scope L f cd))] := by with_unfolding_all rfl) :
    wpAny (model prog w) A (eval (.Call (.Name id p) [e₁, e₂] [] pos) (envOf nm scope L f cd)) Q E (mk s h tk) := r_call2 (r_glob X W sc g m t ⟨rfl, q⟩) he
theorem rc3 (X : Fx h₀ L h ns vs own) (W : Wd T K h₀) (sc : Sc scope ns) (g : Gs scope gs) (m : id ∈ gs) (t : (id, .ref fn) ∈ T)
    (q : wpAny (model prog w) A (eval e₁ (envOf nm scope L f cd)) (fun v₁ s₁ => wpAny (model prog w) A (eval e₂ (envOf nm scope L f cd)) (fun v₂ s₂ => wpAny (model prog w) A (eval e₃ (envOf nm scope L f cd)) (fun v₃ s₃ => CallF prog w A fn [v₁, v₂, v₃] Q E s₃) E s₂) E s₁) E (mk s h tk))
    (he : backTo pos (starEach [e₁, e₂, e₃] (envOf nm scope L f cd)) = [(false, eval e₁ (envOf nm scope L f cd)), (false, eval e₂ (envOf nm scope L f cd)), (false, eval e₃ (envOf nm scope L f cd))] := by with_unfolding_all rfl) :
    wpAny (model prog w) A (eval (.Call (.Name id p) [e₁, e₂, e₃] [] pos) (envOf nm scope L f cd)) Q E (mk s h tk) := r_call3 (r_glob X W sc g m t ⟨rfl, q⟩) he
theorem rc4 (X : Fx h₀ L h ns vs own) (W : Wd T K h₀) (sc : Sc scope ns) (g : Gs scope gs) (m : id ∈ gs) (t : (id, .ref fn) ∈ T)
    (q : wpAny (model prog w) A (eval e₁ (envOf nm scope L f cd)) (fun v₁ s₁ => wpAny (model prog w) A (eval e₂ (envOf nm scope L f cd)) (fun v₂ s₂ => wpAny (model prog w) A (eval e₃ (envOf nm scope L f cd)) (fun v₃ s₃ => wpAny (model prog w) A (eval e₄ (envOf nm scope L f cd)) (fun v₄ s₄ => CallF prog w A fn [v₁, v₂, v₃, v₄] Q E s₄) E s₃) E s₂) E s₁) E (mk s h tk))
    (he : backTo pos (starEach [e₁, e₂, e₃, e₄] (envOf nm scope L f cd)) = [(false, eval e₁ (envOf nm scope L f cd)), (false, eval e₂ (envOf nm scope L f cd)), (false, eval e₃ (envOf nm scope L f cd)), (false, eval e₄ (envOf nm scope L f cd))] := by with_unfolding_all rfl) :
    wpAny (model prog w) A (eval (.Call (.Name id p) [e₁, e₂, e₃, e₄] [] pos) (envOf nm scope L f cd)) Q E (mk s h tk) := r_call4 (r_glob X W sc g m t ⟨rfl, q⟩) he
theorem rb1 (X : Fx h₀ L h ns vs own) (W : Wd T K h₀) (sc : Sc scope ns) (g : Gs scope gs) (m : id ∈ gs) (t : (id, .builtin bi) ∈ T)
    (q : wpAny (model prog w) A (eval e₁ (envOf nm scope L f cd)) (fun v₁ s₁ => wpAny (model prog w) A (call (.builtin bi) [v₁]) Q E s₁) E (mk s h tk))
    (he : backTo pos (starEach [e₁] (envOf nm scope L f cd)) = [(false, eval e₁ (envOf nm scope L f cd))] := by with_unfolding_all rfl) :
    wpAny (model prog w) A (eval (.Call (.Name id p) [e₁] [] pos) (envOf nm scope L f cd)) Q E (mk s h tk) := r_callB1 (r_glob X W sc g m t ⟨rfl, q⟩) he
theorem rb2 (X : Fx h₀ L h ns vs own) (W : Wd T K h₀) (sc : Sc scope ns) (g : Gs scope gs) (m : id ∈ gs) (t : (id, .builtin bi) ∈ T)
    (q : wpAny (model prog w) A (eval e₁ (envOf nm scope L f cd)) (fun v₁ s₁ => wpAny (model prog w) A (eval e₂ (envOf nm scope L f cd)) (fun v₂ s₂ => wpAny (model prog w) A (call (.builtin bi) [v₁, v₂]) Q E s₂) E s₁) E (mk s h tk))
    (he : backTo pos (starEach [e₁, e₂] (envOf nm scope L f cd)) = [(false, eval e₁ (envOf nm scope L f cd)), (false, eval e₂ (envOf nm scope L f cd))] := by with_unfolding_all rfl) :
    wpAny (model prog w) A (eval (.Call (.Name id p) [e₁, e₂] [] pos) (envOf nm scope L f cd)) Q E (mk s h tk) := r_callB2 (r_glob X W sc g m t ⟨rfl, q⟩) he
theorem rt1 (X : Fx h₀ L h ns vs own) (W : Wd T K h₀) (sc : Sc scope ns) (g : Gs scope gs) (m : id ∈ gs) (t : (id, .type bi) ∈ T)
    (q : wpAny (model prog w) A (eval e₁ (envOf nm scope L f cd)) (fun v₁ s₁ => wpAny (model prog w) A (call (.type bi) [v₁]) Q E s₁) E (mk s h tk))
    (he : backTo pos (starEach [e₁] (envOf nm scope L f cd)) = [(false, eval e₁ (envOf nm scope L f cd))] := by with_unfolding_all rfl) :
    wpAny (model prog w) A (eval (.Call (.Name id p) [e₁] [] pos) (envOf nm scope L f cd)) Q E (mk s h tk) := r_callT1 (r_glob X W sc g m t ⟨rfl, q⟩) he
theorem rt2 (X : Fx h₀ L h ns vs own) (W : Wd T K h₀) (sc : Sc scope ns) (g : Gs scope gs) (m : id ∈ gs) (t : (id, .type bi) ∈ T)
    (q : wpAny (model prog w) A (eval e₁ (envOf nm scope L f cd)) (fun v₁ s₁ => wpAny (model prog w) A (eval e₂ (envOf nm scope L f cd)) (fun v₂ s₂ => wpAny (model prog w) A (call (.type bi) [v₁, v₂]) Q E s₂) E s₁) E (mk s h tk))
    (he : backTo pos (starEach [e₁, e₂] (envOf nm scope L f cd)) = [(false, eval e₁ (envOf nm scope L f cd)), (false, eval e₂ (envOf nm scope L f cd))] := by with_unfolding_all rfl) :
    wpAny (model prog w) A (eval (.Call (.Name id p) [e₁, e₂] [] pos) (envOf nm scope L f cd)) Q E (mk s h tk) := r_callT2 (r_glob X W sc g m t ⟨rfl, q⟩) he
theorem rt3 (X : Fx h₀ L h ns vs own) (W : Wd T K h₀) (sc : Sc scope ns) (g : Gs scope gs) (m : id ∈ gs) (t : (id, .type bi) ∈ T)
    (q : wpAny (model prog w) A (eval e₁ (envOf nm scope L f cd)) (fun v₁ s₁ => wpAny (model prog w) A (eval e₂ (envOf nm scope L f cd)) (fun v₂ s₂ => wpAny (model prog w) A (eval e₃ (envOf nm scope L f cd)) (fun v₃ s₃ => wpAny (model prog w) A (call (.type bi) [v₁, v₂, v₃]) Q E s₃) E s₂) E s₁) E (mk s h tk))
    (he : backTo pos (starEach [e₁, e₂, e₃] (envOf nm scope L f cd)) = [(false, eval e₁ (envOf nm scope L f cd)), (false, eval e₂ (envOf nm scope L f cd)), (false, eval e₃ (envOf nm scope L f cd))] := by with_unfolding_all rfl) :
    wpAny (model prog w) A (eval (.Call (.Name id p) [e₁, e₂, e₃] [] pos) (envOf nm scope L f cd)) Q E (mk s h tk) := r_callT3 (r_glob X W sc g m t ⟨rfl, q⟩) he
end
end Mine
end
section
namespace Mine
/-- limbs of a natural, low first -/
def limN (n : Nat) : List Int := if h : n = 0 then [] else ((n % 10000 : Nat) : Int) :: limN (n / 10000)
termination_by n
decreasing_by omega
def lim (x : Int) : List Int := limN x.toNat
def val : List Int → Int
  | [] => 0
  | x :: r => x + 10000 * val r
def Ok (l : List Int) : Prop := ∀ x ∈ l, 0 ≤ x ∧ x < 10000

theorem lim_zero : lim 0 = [] := by unfold lim limN; rfl
theorem lim_pos {x : Int} (h : 0 < x) : lim x = x % 10000 :: lim (x / 10000) := by
  unfold lim
  rw [limN]
  have : x.toNat ≠ 0 := by omega
  rw [dif_neg this]
  congr 1
  · omega
  · congr 1; omega
theorem lim_ind {P : Int → Prop} (h0 : P 0) (hs : ∀ x, 0 < x → P (x / 10000) → P x) : ∀ x, 0 ≤ x → P x := by
  have key : ∀ n : Nat, ∀ x : Int, 0 ≤ x → x.toNat = n → P x := by
    intro n
    induction n using Nat.strongRecOn with
    | ind n ih =>
      intro x hx hn
      by_cases h : x = 0
      · subst h; exact h0
      · exact hs x (by omega) (ih (x / 10000).toNat (by omega) (x / 10000) (by omega) rfl)
  exact fun x hx => key _ x hx rfl
theorem val_lim : ∀ x, 0 ≤ x → val (lim x) = x :=
  lim_ind (by rw [lim_zero]; rfl) fun x hx ih => by rw [lim_pos hx, val, ih]; omega
theorem ok_lim : ∀ x, 0 ≤ x → Ok (lim x) :=
  lim_ind (by rw [lim_zero]; intro y hy; cases hy) fun x hx ih => by
    rw [lim_pos hx]
    intro y hy
    rcases List.mem_cons.mp hy with rfl | hy
    · omega
    · exact ih y hy
theorem ok_nil : Ok [] := fun _ h => nomatch h
theorem ok_cons {x : Int} {l : List Int} : Ok (x :: l) ↔ (0 ≤ x ∧ x < 10000) ∧ Ok l :=
  ⟨fun h => ⟨h x (.head _), fun y hy => h y (.tail _ hy)⟩, fun h y hy => by rcases List.mem_cons.mp hy with rfl | hy; exact h.1; exact h.2 y hy⟩
theorem ok_append {a b : List Int} (ha : Ok a) (hb : Ok b) : Ok (a ++ b) := fun y hy => (List.mem_append.mp hy).elim (ha y) (hb y)
theorem ok_drop {l : List Int} (h : Ok l) (k : Nat) : Ok (l.drop k) := fun y hy => h y (List.mem_of_mem_drop hy)
theorem ok_take {l : List Int} (h : Ok l) (k : Nat) : Ok (l.take k) := fun y hy => h y (List.mem_of_mem_take hy)
theorem val_nonneg : ∀ {l : List Int}, Ok l → 0 ≤ val l
  | [], _ => by simp [val]
  | x :: r, h => by have := val_nonneg (ok_cons.mp h).2; have := (ok_cons.mp h).1; simp only [val]; omega
theorem lim_eq_nil {x : Int} (hx : 0 ≤ x) : lim x = [] ↔ x = 0 := by
  constructor
  · intro h; have := val_lim x hx; rw [h] at this; simpa [val] using this.symm
  · rintro rfl; exact lim_zero
theorem len_lim_pos {x : Int} (hx : 0 < x) : 0 < (lim x).length := by rw [lim_pos hx]; simp
/-- the limbs behind a place -/
theorem drop_lim : ∀ x, 0 ≤ x → ∀ k : Nat, (lim x).drop k = lim (x / 10000 ^ k) := by
  refine lim_ind ?_ ?_
  · intro k; rw [lim_zero]; simp [lim_zero]
  · intro x hx ih k
    cases k with
    | zero => simp
    | succ k =>
      rw [lim_pos hx, List.drop_succ_cons, ih k]
      congr 1
      rw [Int.ediv_ediv_of_nonneg (by decide), Int.pow_succ, Int.mul_comm]
theorem val_drop {l : List Int} {k : Nat} (h : k < l.length) : val (l.drop k) = l.getD k 0 + 10000 * val (l.drop (k + 1)) := by
  rw [List.drop_eq_getElem_cons h, val]
  congr 1
  simp [List.getD, h]
theorem val_drop_all {l : List Int} {k : Nat} (h : l.length ≤ k) : val (l.drop k) = 0 := by rw [List.drop_eq_nil_of_le h]; rfl
theorem getD_ok {l : List Int} (h : Ok l) (k : Nat) : 0 ≤ l.getD k 0 ∧ l.getD k 0 < 10000 := by
  by_cases hk : k < l.length
  · have : l.getD k 0 ∈ l := by simp [List.getD, hk]
    exact h _ this
  · simp [List.getD, List.getElem?_eq_none (Nat.le_of_not_lt hk)]
theorem val_drop_pos {x : Int} (hx : 0 ≤ x) {k : Nat} (h : k < (lim x).length) : 0 < val ((lim x).drop k) := by
  have e := drop_lim x hx k
  have hne : (lim x).drop k ≠ [] := by simp; omega
  rw [e] at hne ⊢
  have h0 : 0 ≤ x / 10000 ^ k := Int.ediv_nonneg hx (Int.pow_nonneg (by decide))
  rw [val_lim _ h0]
  have := mt (lim_eq_nil h0).mpr hne
  omega
theorem len_mono : ∀ y, 0 ≤ y → ∀ x, 0 ≤ x → x ≤ y → (lim x).length ≤ (lim y).length := by
  refine lim_ind ?_ ?_
  · intro x hx hxy; have : x = 0 := by omega
    subst this; exact Nat.le_refl _
  · intro y hy ih x hx hxy
    by_cases h : x = 0
    · subst h; rw [lim_zero]; exact Nat.zero_le _
    · rw [lim_pos hy, lim_pos (x := x) (by omega)]
      simp only [List.length_cons]
      have := ih (x / 10000) (by omega) (by omega)
      omega
/-- trailing noughts off -/
def trim : List Int → List Int
  | [] => []
  | x :: r => if trim r = [] ∧ x = 0 then [] else x :: trim r
theorem trim_ok : ∀ {l : List Int}, Ok l → trim l = lim (val l)
  | [], _ => by simp [trim, val, lim_zero]
  | x :: r, h => by
    obtain ⟨h1, h2⟩ := ok_cons.mp h
    have ih := trim_ok h2
    have hv := val_nonneg h2
    simp only [trim, ih, val, lim_eq_nil hv]
    by_cases hz : val r = 0 ∧ x = 0
    · rw [if_pos hz, hz.1, hz.2]; simp [lim_zero]
    · rw [if_neg hz, lim_pos (x := x + 10000 * val r) (by omega)]
      congr 1
      · omega
      · congr 1; omega
theorem trim_zero : ∀ l : List Int, trim (l ++ [0]) = trim l
  | [] => by simp [trim]
  | x :: r => by simp only [List.cons_append, trim, trim_zero r]
theorem trim_last : ∀ (l : List Int) {x : Int}, x ≠ 0 → trim (l ++ [x]) = l ++ [x]
  | [], x, h => by simp [trim, h]
  | y :: r, x, h => by simp [List.cons_append, trim, trim_last r h]
theorem take_last {l : List Int} {n : Nat} (h : n < l.length) : l.take (n + 1) = l.take n ++ [l.getD n 0] := by
  rw [List.take_add_one]
  simp [List.getD, h]
/-- so many limbs -/
def dg : Nat → Int → List Int
  | 0, _ => []
  | n + 1, v => v % 10000 :: dg n (v / 10000)
theorem dg_len : ∀ n v, (dg n v).length = n
  | 0, _ => rfl
  | n + 1, v => by simp [dg, dg_len n]
theorem dg_ok : ∀ n v, Ok (dg n v)
  | 0, _ => ok_nil
  | n + 1, v => ok_cons.mpr ⟨by omega, dg_ok n _⟩
theorem dg_lim : ∀ n v, 0 ≤ v → (lim v).length ≤ n → val (dg n v) = v
  | 0, v, h, hl => by
    have : lim v = [] := List.length_eq_zero_iff.mp (by omega)
    rw [(lim_eq_nil h).mp this]; rfl
  | n + 1, v, h, hl => by
    have h2 : (lim (v / 10000)).length ≤ n := by
      by_cases hv : v = 0
      · subst hv; simp [lim_zero]
      · rw [lim_pos (x := v) (by omega)] at hl; simpa using hl
    rw [dg, val, dg_lim n (v / 10000) (by omega) h2]; omega
theorem lim_inj {x y : Int} (hx : 0 ≤ x) (hy : 0 ≤ y) : lim x = lim y ↔ x = y :=
  ⟨fun h => by have := congrArg val h; rwa [val_lim x hx, val_lim y hy] at this, fun h => h ▸ rfl⟩
theorem lim_small {c : Int} (h0 : 0 < c) (h1 : c < 10000) : lim c = [c] := by
  rw [lim_pos h0]
  have e1 : c % 10000 = c := by omega
  have e2 : c / 10000 = 0 := by omega
  rw [e1, e2, lim_zero]
end Mine
end
section
set_option linter.unusedVariables false
open PySem PySem.W PySem.Calls PyProof.Rows
namespace Mine
section
variable {prog : Program} {w : World} {A : Around} {E : Value → Shared → Prop} {s : Shared} {h : Heap} {tk : Nat} {f : Addr} {ns gs : List Str} {vs : List (Option Value)}
def okScope (scope : Scope) (ns gs : List Str) : Bool :=
  nodupB ns && decide (scope.kind = .function) && ns.all (fun x => decide (scope.names.lookup x = some .local) && !(x == ("__debug__" : Str))) && gs.all (fun x => decide (scope.names.lookup x = some .globalImplicit) && !(x == ("__debug__" : Str))) &&
    scope.names.all (fun x => decide (x.2 ≠ .cell)) && !scope.isGenerator && !scope.isCoroutine
theorem okScope_of {scope : Scope} {ns gs : List Str} (h : okScope scope ns gs = true) : Sc scope ns ∧ Gs scope gs ∧ (∀ x ∈ scope.names, x.2 ≠ .cell) ∧ scope.isGenerator = false ∧ scope.isCoroutine = false := by
  unfold okScope at h
  simp only [Bool.and_eq_true, decide_eq_true_eq, List.all_eq_true, Bool.not_eq_true'] at h
  obtain ⟨⟨⟨⟨⟨⟨h1, h2⟩, h3⟩, h4⟩, h5⟩, h6⟩, h7⟩ := h
  exact ⟨⟨nodup_of h1, h2, fun x hx => (h3 x hx).1, fun x hx => (h3 x hx).2⟩, ⟨fun x hx => (h4 x hx).1, fun x hx => (h4 x hx).2⟩, h5, h6, h7⟩
theorem enterK {T : List (Str × Value)} {K : List (Addr × Obj)} {name qual : Str} {params : Arguments} {body body' : List Stmt} {scope : Scope} {dV kV doc pm cdv ct oc : Value} {an od : Option Addr} {osl : Array (Option Value)} {args : List Value} {binds : List (Str × Value)} {Q : Value → Shared → Prop} {d : Nat}
    (W : Wd T K h) (ao : AOk A (d + 1)) (ho : K.lookup f = some ⟨oc, od, .func (fnOf name qual params body scope dV kV doc pm an cdv ct), osl⟩) (hb : body = body') (hcd : codeIn K cdv qual = true)
    (hbind : bindArgs (fnOf name qual params body scope dV kV doc pm an cdv ct) ⟨args, []⟩ = pure binds) (hok : okScope scope ns gs = true) (en : Ent binds ns vs)
    (q : ∀ A' nm scope f cd L h₁ tk', Fx h L h₁ ns vs [] → AOk A' d → Sc scope ns → Gs scope gs → wpAny (model prog w) A' (execs body' (envOf nm scope L f cd)) (RetQ Q) E0 (mk s h₁ tk')) :
    CallF prog w A f args Q E (mk s h tk) := by
  subst hb
  obtain ⟨sc, g, hcell, hgen, hco⟩ := okScope_of hok
  exact enter ao (W.kx _ _ ho) rfl (codeRec_of (K := K) W.kx hcd) W.nl (fun _ => rfl) rfl hbind hcell hgen hco sc en fun L h₁ tk' X a => q _ _ _ _ _ L h₁ tk' X a sc g
end
end Mine
end
section
set_option linter.unusedVariables false
open PySem PySem.W PySem.Calls PyProof.Rows
namespace Mine
section
variable {prog : Program} {w : World} {A : Around} {E : Value → Shared → Prop} {s : Shared} {h₀ h : Heap} {tk : Nat} {L f : Addr} {nm : Str} {scope : Scope} {cd : Value} {ns : List Str} {vs vs' : List (Option Value)} {own own' : Own} {l : Addr} {xs : List Int}
theorem r_max {a b : Int} {t u : Tok} {Q : Value → Shared → Prop} (X : Fx h₀ L h ns vs own) (hh : A.handled = none) (q : ∀ t h' tk', Fx h₀ L h' ns vs own → Q (.int (max a b) t) (mk s h' tk')) :
    wpAny (model prog w) A (call (.builtin "max") [.int a t, .int b u]) Q E (mk s h tk) := by
  obtain ⟨news, N, k⟩ := X.adapt
  refine max_two_N (s := mk s h tk) (m := fm ns vs) hh X.fr N fun h' tk F N' => ?_
  have e : (if b > a then b else a) = max a b := by split <;> omega
  rw [e]
  exact q _ h' tk (k h' F N')
theorem r_abs {a : Int} {t : Tok} {Q : Value → Shared → Prop} (q : ∀ t tk', Q (.int a.natAbs t) (mk s h tk')) : wpAny (model prog w) A (call (.builtin "abs") [.int a t]) Q E (mk s h tk) := by
  refine call_abs_int (s := mk s h tk) fun u tk => ?_
  have e : (if a < 0 then -a else a) = (a.natAbs : Int) := by split <;> omega
  rw [e]
  exact q u tk
theorem r_setitem {k i : Int} {t u : Tok} {Q : Unit → Shared → Prop} (X : Fx h₀ L h ns vs own) (r : Rep l (IL xs) (IL (xs.set k.toNat i)) own own') (h0 : 0 ≤ k) (hk : k < xs.length) (hz : (xs.length : Int) < 2 ^ 62) (q : ∀ h', Fx h₀ L h' ns vs own' → Q () (mk s h' tk)) :
    wpAny (model prog w) A (setItem (.ref l) (.int k t) (.int i u)) Q E (mk s h tk) := by
  obtain ⟨ys, n, hi, e⟩ := (X.own_ r.mem).il
  refine ki_setAt (s := mk s h tk) (items := ys.toArray) (n := n) e h0 (by omega) (by rw [List.size_toArray, hi.length]; exact hk) (q _ (X.upd r (Heap.SameBut.update ..) ?_))
  have e' : Obj.mapSeq (·.setIfInBounds k.toNat (Value.int i u)) (lob ys n) = lob (ys.set k.toNat (.int i u)) n := by
    unfold lob Obj.mapSeq
    simp
  refine ⟨lob (ys.set k.toNat (.int i u)) n, ?_, ys.set k.toNat (.int i u), n, Mine.ints_set hi _ _ _, rfl⟩
  rw [← e']
  exact Heap.get?_update_self _ e (by rw [e']; rfl)
end
end Mine
end
section
namespace Mine
def cmpI (x y : Int) : Int := if x < y then -1 else if x = y then 0 else 1
theorem val_lt : ∀ (k : Nat) {a b : List Int}, Ok a → Ok b → a.length = b.length → k < a.length → a.drop (k + 1) = b.drop (k + 1) → a.getD k 0 < b.getD k 0 → val a < val b
  | 0, x :: r, y :: t, ha, hb, hl, _, hd, hlt => by
    simp at hd hlt
    subst hd
    simp only [val]; omega
  | k + 1, x :: r, y :: t, ha, hb, hl, hk, hd, hlt => by
    have h := val_lt k (ok_cons.mp ha).2 (ok_cons.mp hb).2 (by simpa using hl) (by simpa using hk) (by simpa using hd) (by simpa using hlt)
    have h1 := (ok_cons.mp ha).1
    have h2 := (ok_cons.mp hb).1
    simp only [val]; omega
  | _, [], _, _, _, _, hk, _, _ => by simp at hk
  | 0, x :: r, [], _, _, hl, _, _, _ => by simp at hl
  | k + 1, x :: r, [], _, _, hl, _, _, _ => by simp at hl
theorem lt_of_len {x y : Int} (hx : 0 ≤ x) (hy : 0 ≤ y) (h : (lim x).length < (lim y).length) : x < y := by
  rcases Int.lt_or_le x y with z | z
  · exact z
  · have := len_mono x hx y hy z; omega
theorem lim_getD_lt {x y : Int} (hx : 0 ≤ x) (hy : 0 ≤ y) (hl : (lim x).length = (lim y).length) {k : Nat} (hk : k < (lim x).length) (hd : (lim x).drop (k + 1) = (lim y).drop (k + 1)) (h : (lim x).getD k 0 < (lim y).getD k 0) : x < y := by
  have := val_lt k (ok_lim x hx) (ok_lim y hy) hl hk hd h
  rwa [val_lim x hx, val_lim y hy] at this
theorem drop_step {a b : List Int} (hl : a.length = b.length) {k : Nat} (hk : k < a.length) (hd : a.drop (k + 1) = b.drop (k + 1)) (he : a.getD k 0 = b.getD k 0) : a.drop k = b.drop k := by
  rw [List.drop_eq_getElem_cons hk, List.drop_eq_getElem_cons (show k < b.length by omega), hd]
  simp [List.getD, hk, show k < b.length by omega] at he
  rw [he]
theorem add_step {T R : List Int} {A B A' B' a b c : Int} (hR : T ++ lim (A + B + c) = R) (hA : A = a + 10000 * A') (hB : B = b + 10000 * B') (hp : 0 < A + B + c) :
    (T ++ [(c + a + b) % 10000]) ++ lim (A' + B' + (c + a + b) / 10000) = R := by
  rw [← hR, lim_pos hp, List.append_assoc]
  congr 2
  have e1 : (A + B + c) % 10000 = (c + a + b) % 10000 := by omega
  have e2 : (A + B + c) / 10000 = A' + B' + (c + a + b) / 10000 := by omega
  rw [e1, e2]; rfl
theorem sub_step {T R : List Int} {A B A' B' a b c t c' : Int} {n : Nat} (hR : T ++ dg (n + 1) (A - B - c) = R) (hA : A = a + 10000 * A') (hB : B = b + 10000 * B') (ht : t = a - c - b + 10000 * c') (h0 : 0 ≤ t) (h1 : t < 10000) :
    (T ++ [t]) ++ dg n (A' - B' - c') = R := by
  rw [← hR, List.append_assoc]
  congr 1
  have e1 : (A - B - c) % 10000 = t := by omega
  have e2 : (A - B - c) / 10000 = A' - B' - c' := by omega
  rw [dg, e1, e2]; rfl
theorem mul_step {T R : List Int} {d A A' a c : Int} (hR : T ++ lim (d * A + c) = R) (hA : A = a + 10000 * A') (hp : 0 < d * A + c) : (T ++ [(a * d + c) % 10000]) ++ lim (d * A' + (a * d + c) / 10000) = R := by
  rw [← hR, lim_pos hp, List.append_assoc]
  have e0 : d * A = a * d + 10000 * (d * A') := by rw [hA, Int.mul_add, Int.mul_comm d a, Int.mul_left_comm]
  generalize d * A' = M at *
  generalize a * d = N at *
  congr 2
  have e1 : (d * A + c) % 10000 = (N + c) % 10000 := by omega
  have e2 : (d * A + c) / 10000 = M + (N + c) / 10000 := by omega
  rw [e1, e2]; rfl
theorem len_le_of_append {T R : List Int} {v : Int} (h : T ++ lim v = R) : T.length ≤ R.length := by rw [← h]; simp
theorem lim_last {c : Int} (h0 : 0 ≤ c) (h1 : c < 10000) : lim c = if c > 0 then [c] else [] := by
  split
  · exact lim_small (by assumption) h1
  · rw [show c = 0 by omega, lim_zero]
theorem sub_ok {x y : Int} (hx : 0 ≤ x) (hy : 0 ≤ y) (h : y ≤ x) : trim (dg (lim x).length (x - y)) = lim (x - y) := by
  rw [trim_ok (dg_ok _ _), dg_lim _ _ (by omega) (len_mono x hx (x - y) (by omega) (by omega))]
theorem lim_tl {x : Int} (h : 0 < x) : ∃ d r, lim x = d :: r := ⟨_, _, lim_pos h⟩
end Mine
end
section
namespace Mine
theorem val_lt_pow : ∀ {l : List Int}, Ok l → val l < 10000 ^ l.length
  | [], _ => by simp [val]
  | x :: r, h => by
    have h1 := (ok_cons.mp h).1
    have h2 := val_lt_pow (ok_cons.mp h).2
    simp only [val, List.length_cons, Int.pow_succ]
    generalize (10000 : Int) ^ r.length = p at *
    omega
theorem len_le_of_lt : ∀ (n : Nat) (v : Int), 0 ≤ v → v < 10000 ^ n → (lim v).length ≤ n
  | 0, v, h, hl => by
    have : v = 0 := by simp at hl; omega
    subst this; rw [lim_zero]; exact Nat.zero_le _
  | n + 1, v, h, hl => by
    by_cases hv : v = 0
    · subst hv; rw [lim_zero]; exact Nat.zero_le _
    · rw [lim_pos (x := v) (by omega), List.length_cons]
      have := len_le_of_lt n (v / 10000) (by omega) (by
        rw [Int.pow_succ] at hl
        generalize (10000 : Int) ^ n = p at *
        omega)
      omega
theorem lt_pow_len {x : Int} (h : 0 ≤ x) : x < 10000 ^ (lim x).length := by
  have := val_lt_pow (ok_lim x h)
  rwa [val_lim x h] at this
theorem pow_pos (n : Nat) : (0 : Int) < 10000 ^ n := Int.pow_pos (by decide)
theorem pow_mono : ∀ (k a : Nat), (10000 : Int) ^ a ≤ 10000 ^ (a + k)
  | 0, a => by simp
  | k + 1, a => by
    have := pow_mono k a
    have h := pow_pos (a + k)
    rw [← Nat.add_assoc, Int.pow_succ]
    generalize (10000 : Int) ^ (a + k) = p at *
    omega
theorem pow_le {a b : Nat} (h : a ≤ b) : (10000 : Int) ^ a ≤ 10000 ^ b := by
  have := pow_mono (b - a) a
  rwa [show a + (b - a) = b by omega] at this
theorem len_mul {x y : Int} (hx : 0 ≤ x) (hy : 0 ≤ y) : (lim (x * y)).length ≤ (lim x).length + (lim y).length := by
  refine len_le_of_lt _ _ (Int.mul_nonneg hx hy) ?_
  rw [Int.pow_add]
  have h1 := lt_pow_len hx
  have h2 := lt_pow_len hy
  have h3 := pow_pos (lim x).length
  have h4 := pow_pos (lim y).length
  calc x * y ≤ x * 10000 ^ (lim y).length := Int.mul_le_mul_of_nonneg_left (by omega) hx
    _ < 10000 ^ (lim x).length * 10000 ^ (lim y).length := Int.mul_lt_mul_of_pos_right h1 h4
theorem len_add {x y : Int} (hx : 0 ≤ x) (hy : 0 ≤ y) : (lim (x + y)).length ≤ max (lim x).length (lim y).length + 1 := by
  refine len_le_of_lt _ _ (by omega) ?_
  have h1 := lt_pow_len hx
  have h2 := lt_pow_len hy
  have m1 : (10000 : Int) ^ (lim x).length ≤ 10000 ^ (max (lim x).length (lim y).length) := pow_le (Nat.le_max_left ..)
  have m2 : (10000 : Int) ^ (lim y).length ≤ 10000 ^ (max (lim x).length (lim y).length) := pow_le (Nat.le_max_right ..)
  rw [Int.pow_succ]
  have := pow_pos (max (lim x).length (lim y).length)
  omega
theorem dg_val : ∀ {l : List Int}, Ok l → dg l.length (val l) = l
  | [], _ => rfl
  | x :: r, h => by
    have h1 := (ok_cons.mp h).1
    have ih := dg_val (ok_cons.mp h).2
    simp only [List.length_cons, dg, val]
    have e1 : (x + 10000 * val r) % 10000 = x := by omega
    have e2 : (x + 10000 * val r) / 10000 = val r := by omega
    rw [e1, e2, ih]
theorem mulin_step {U R : List Int} {m : Nat} {W B W' B' w b a c : Int} (hR : U ++ dg (m + 1) (W + a * B + c) = R) (hW : W = w + 10000 * W') (hB : B = b + 10000 * B') :
    (U ++ [(w + a * b + c) % 10000]) ++ dg m (W' + a * B' + (w + a * b + c) / 10000) = R := by
  rw [← hR, List.append_assoc]
  have e0 : a * B = a * b + 10000 * (a * B') := by rw [hB, Int.mul_add, Int.mul_left_comm]
  rw [e0, hW]
  generalize a * B' = M
  generalize a * b = N
  congr 1
  have e1 : (w + 10000 * W' + (N + 10000 * M) + c) % 10000 = (w + N + c) % 10000 := by omega
  have e2 : (w + 10000 * W' + (N + 10000 * M) + c) / 10000 = W' + M + (w + N + c) / 10000 := by omega
  rw [dg, e1, e2]; rfl
theorem set_mid (A B : List Int) (x v : Int) (k : Nat) (h : k = A.length) : (A ++ x :: B).set k v = A ++ v :: B := by
  subst h
  induction A with
  | nil => rfl
  | cons a A ih => simp only [List.cons_append, List.length_cons, List.set_cons_succ, ih]
theorem get_mid (A B : List Int) (x : Int) (k : Nat) (h : k = A.length) : (A ++ x :: B).getD k 0 = x := by
  subst h; simp [List.getD]
theorem drop_cons {l : List Int} {k : Nat} (h : k < l.length) : l.drop k = l.getD k 0 :: l.drop (k + 1) := by
  rw [List.drop_eq_getElem_cons h]; simp [List.getD, h]
/-- one row of the school's product done -/
theorem mulout_step {P R : List Int} {m k : Nat} {W V y A A' a : Int} (hR : P ++ dg (m + 1) (W + A * y) = R) (hA : A = a + 10000 * A') (hV : V = W + a * y) (hv0 : 0 ≤ V) (hv : V < 10000 ^ (k + 1)) :
    (P ++ [V % 10000]) ++ dg m (val (dg k (V / 10000)) + A' * y) = R := by
  rw [dg_lim k _ (by omega) (len_le_of_lt _ _ (by omega) (by rw [Int.pow_succ] at hv; generalize (10000 : Int) ^ k = p at *; omega))]
  rw [← hR, List.append_assoc]
  have e0 : W + A * y = V + 10000 * (A' * y) := by rw [hA, Int.add_mul, Int.mul_assoc]; omega
  rw [e0]
  generalize A' * y = M
  congr 1
  have e1 : (V + 10000 * M) % 10000 = V % 10000 := by omega
  have e2 : (V + 10000 * M) / 10000 = V / 10000 + M := by omega
  rw [dg, e1, e2]; rfl
theorem len_digit {k y : Int} (hk : 0 ≤ k) (hk' : k < 10000) (hy : 0 ≤ y) : (lim (k * y)).length ≤ (lim y).length + 1 := by
  have h1 := len_mul hk hy
  have h2 : (lim k).length ≤ 1 := len_le_of_lt 1 k hk (by simpa using hk')
  omega
theorem val_append : ∀ (a b : List Int), val (a ++ b) = val a + 10000 ^ a.length * val b
  | [], b => by simp [val]
  | x :: r, b => by
    simp only [List.cons_append, val, val_append r b, List.length_cons, Int.pow_succ]
    rw [Int.mul_add, ← Int.mul_assoc, Int.mul_comm 10000 (10000 ^ r.length)]
    omega
end Mine
end
section
namespace Mine
def sg (x : Int) : Int := if x < 0 then -1 else if x = 0 then 0 else 1
theorem sg_b (x : Int) : -1 ≤ sg x ∧ sg x ≤ 1 := by unfold sg; split <;> (try split) <;> omega
theorem sg_neg {x : Int} (h : x < 0) : sg x = -1 := by unfold sg; rw [if_pos h]
theorem sg_zero : sg 0 = 0 := rfl
theorem sg_pos {x : Int} (h : 0 < x) : sg x = 1 := by unfold sg; rw [if_neg (by omega), if_neg (by omega)]
theorem sg_eq0 {x : Int} : sg x = 0 ↔ x = 0 := by unfold sg; split <;> (try split) <;> omega
theorem sg_mul (x y : Int) : sg x * sg y = sg (x * y) := by
  rcases Int.lt_trichotomy x 0 with hx | hx | hx <;> rcases Int.lt_trichotomy y 0 with hy | hy | hy
  · rw [sg_neg hx, sg_neg hy, sg_pos (Int.mul_pos_of_neg_of_neg hx hy)]; rfl
  · rw [hy, Int.mul_zero, sg_zero, Int.mul_zero]
  · rw [sg_neg hx, sg_pos hy, sg_neg (Int.mul_neg_of_neg_of_pos hx hy)]; rfl
  · rw [hx, Int.zero_mul, sg_zero, Int.zero_mul]
  · rw [hx, Int.zero_mul, sg_zero, Int.zero_mul]
  · rw [hx, Int.zero_mul, sg_zero, Int.zero_mul]
  · rw [sg_pos hx, sg_neg hy, sg_neg (Int.mul_neg_of_pos_of_neg hx hy)]; rfl
  · rw [hy, Int.mul_zero, sg_zero, Int.mul_zero]
  · rw [sg_pos hx, sg_pos hy, sg_pos (Int.mul_pos hx hy)]; rfl
theorem natAbs_nn (x : Int) : (0 : Int) ≤ x.natAbs := by omega
theorem natAbs_mulI (x y : Int) : ((x.natAbs : Int) * y.natAbs) = ((x * y).natAbs : Int) := by rw [Int.natAbs_mul]; rfl
theorem gcd_step (x y : Int) (hx : 0 ≤ x) (hy : 0 ≤ y) : Int.gcd y (x % y) = Int.gcd x y := by
  obtain ⟨a, rfl⟩ := Int.eq_ofNat_of_zero_le hx
  obtain ⟨b, rfl⟩ := Int.eq_ofNat_of_zero_le hy
  show Nat.gcd b (a % b) = Nat.gcd a b
  rw [Nat.gcd_comm a b, Nat.gcd_rec b a, Nat.gcd_comm b]
theorem gcd_zero (x : Int) (hx : 0 ≤ x) : (Int.gcd x 0 : Int) = x := by rw [Int.gcd_zero_right]; omega
theorem gcd_le_len {x y : Int} (hx : 0 ≤ x) (hy : 0 ≤ y) : (lim (Int.gcd x y)).length ≤ max (lim x).length (lim y).length := by
  by_cases h : x = 0
  · subst h
    have : (Int.gcd 0 y : Int) = y := by rw [Int.gcd_zero_left]; omega
    rw [this]; exact Nat.le_max_right ..
  · refine Nat.le_trans (len_mono x hx _ (by omega) ?_) (Nat.le_max_left ..)
    exact Int.le_of_dvd (by omega) (Int.gcd_dvd_left ..)
end Mine
end
section
open PySem
namespace Mine
/-- the text of an int -/
def S (x : Int) : Str := Str.ofString (toString x)
def dec (n : Nat) : List Nat := (Nat.toDigits 10 n).map Char.toNat
theorem S_nat (n : Nat) : S (n : Int) = ⟨(dec n).toArray⟩ := PyProof.Rows.text_ofNat n
theorem S_eq {x : Int} (h : 0 ≤ x) : S x = ⟨(dec x.toNat).toArray⟩ := by
  have := S_nat x.toNat
  rwa [show ((x.toNat : Nat) : Int) = x by omega] at this
theorem dec_small {d : Nat} (h : d < 10) : dec d = [48 + d] := by
  unfold dec
  rw [Nat.toDigits_of_lt_base h]
  have : ∀ d : Nat, d < 10 → [d.digitChar].map Char.toNat = [48 + d] := by decide
  exact this d h
theorem dec_snoc {n d : Nat} (hn : 0 < n) (hd : d < 10) : dec (10 * n + d) = dec n ++ [48 + d] := by
  have := Nat.toDigits_append_toDigits (b := 10) (n := n) (d := d) (by decide) hn hd
  unfold dec
  rw [← this, List.map_append]
  congr 1
  exact dec_small hd
def z4 (r : Nat) : List Nat := [48 + r / 1000, 48 + r / 100 % 10, 48 + r / 10 % 10, 48 + r % 10]
theorem dec4 {v r : Nat} (hv : 0 < v) (hr : r < 10000) : dec (10000 * v + r) = dec v ++ z4 r := by
  have e1 : 10000 * v + r = 10 * (10 * (10 * (10 * v + r / 1000) + r / 100 % 10) + r / 10 % 10) + r % 10 := by omega
  rw [e1, dec_snoc (by omega) (by omega), dec_snoc (by omega) (by omega), dec_snoc (by omega) (by omega), dec_snoc hv (by omega)]
  simp [z4]
theorem dec_len {r : Nat} (h : r < 10000) : (dec r).length ≤ 4 := by
  unfold dec
  rw [List.length_map]
  exact PyProof.Rows.digits10_le (by decide) (by simpa using h)
theorem dec_first (n : Nat) : ∃ c r, dec n = c :: r ∧ 48 ≤ c := by
  induction n using Nat.strongRecOn with
  | ind n ih =>
    by_cases h : n < 10
    · exact ⟨_, _, dec_small h, by omega⟩
    · obtain ⟨c, r, e, hc⟩ := ih (n / 10) (by omega)
      refine ⟨c, r ++ [48 + n % 10], ?_, hc⟩
      have := dec_snoc (n := n / 10) (d := n % 10) (by omega) (by omega)
      rw [show 10 * (n / 10) + n % 10 = n by omega, e] at this
      exact this
theorem zfill4 {r : Int} (h0 : 0 ≤ r) (h1 : r < 10000) : Txt.zfill (S r) 4 = ⟨(z4 r.toNat).toArray⟩ := by
  obtain ⟨n, rfl⟩ := Int.eq_ofNat_of_zero_le h0
  rw [S_nat, Int.toNat_natCast]
  have hn : n < 10000 := by omega
  obtain ⟨c, rr, ec, hc⟩ := dec_first n
  have key : ∀ k, (dec n).length = k → k ≤ 4 → List.replicate (4 - k) 48 ++ dec n = z4 n → Txt.zfill ⟨(dec n).toArray⟩ 4 = ⟨(z4 n).toArray⟩ := by
    intro k hk hk4 e
    unfold Txt.zfill
    have hl : (Str.mk (dec n).toArray).length = k := by simp [Str.length, hk]
    rw [hl]
    by_cases h4 : (4 : Int) ≤ (k : Int)
    · rw [if_pos h4]
      have : 4 - k = 0 := by omega
      rw [this] at e
      simp only [List.replicate_zero, List.nil_append] at e
      rw [e]
    · rw [if_neg h4]
      unfold zfilled
      have hget : (Str.mk (dec n).toArray).cps[0]? = some c := by simp [ec]
      rw [hget]
      have h43 : c ≠ 43 := by omega
      have h45 : c ≠ 45 := by omega
      have : Builtin.Str.padded (Str.mk (dec n).toArray) ((4 : Int).toNat - k) 0 48 = ⟨(z4 n).toArray⟩ := by
        unfold Builtin.Str.padded
        rw [← e]
        congr 1
        apply Array.toList_inj.mp
        simp
      split
      · exact absurd (by injection ‹_›) h43
      · exact absurd (by injection ‹_›) h45
      · exact this
  by_cases c1 : n < 10
  · have e := dec_small c1
    refine key 1 (by rw [e]; rfl) (by omega) ?_
    rw [e]; simp [z4, List.replicate]; omega
  · by_cases c2 : n < 100
    · have e : dec n = [48 + n / 10, 48 + n % 10] := by
        have := dec_snoc (n := n / 10) (d := n % 10) (by omega) (by omega)
        rw [show 10 * (n / 10) + n % 10 = n by omega, dec_small (show n / 10 < 10 by omega)] at this
        exact this
      refine key 2 (by rw [e]; rfl) (by omega) ?_
      rw [e]; simp [z4, List.replicate]; omega
    · by_cases c3 : n < 1000
      · have e : dec n = [48 + n / 100, 48 + n / 10 % 10, 48 + n % 10] := by
          have h1 := dec_snoc (n := n / 10) (d := n % 10) (by omega) (by omega)
          have h2 := dec_snoc (n := n / 100) (d := n / 10 % 10) (by omega) (by omega)
          rw [show 10 * (n / 100) + n / 10 % 10 = n / 10 by omega, dec_small (show n / 100 < 10 by omega)] at h2
          rw [show 10 * (n / 10) + n % 10 = n by omega, h2] at h1
          exact h1
        refine key 3 (by rw [e]; rfl) (by omega) ?_
        rw [e]; simp [z4, List.replicate]; omega
      · have e : dec n = z4 n := by
          have h1 := dec_snoc (n := n / 10) (d := n % 10) (by omega) (by omega)
          have h2 := dec_snoc (n := n / 100) (d := n / 10 % 10) (by omega) (by omega)
          have h3 := dec_snoc (n := n / 1000) (d := n / 100 % 10) (by omega) (by omega)
          rw [show 10 * (n / 1000) + n / 100 % 10 = n / 100 by omega, dec_small (show n / 1000 < 10 by omega)] at h3
          rw [show 10 * (n / 100) + n / 10 % 10 = n / 10 by omega, h3] at h2
          rw [show 10 * (n / 10) + n % 10 = n by omega, h2] at h1
          exact h1
        refine key 4 (by rw [e]; rfl) (by omega) ?_
        rw [e]; rfl
theorem join_snoc : ∀ (l : List Str) (z : Str), Str.join "" (l ++ [z]) = Str.join "" l ++ z
  | [], z => by show z = Str.empty ++ z; rw [Str.empty_append]
  | [x], z => by
    show x ++ (Str.ofString "") ++ z = x ++ z
    rw [show Str.ofString "" = Str.empty from by decide +kernel, Str.append_assoc, Str.empty_append]
  | x :: y :: r, z => by
    have ih := join_snoc (y :: r) z
    show x ++ (Str.ofString "") ++ Str.join "" ((y :: r) ++ [z]) = x ++ (Str.ofString "") ++ Str.join "" (y :: r) ++ z
    rw [ih, ← Str.append_assoc]
theorem S_step {v r : Int} (hv : 0 < v) (hr : 0 ≤ r) (hr' : r < 10000) : S v ++ Txt.zfill (S r) 4 = S (r + 10000 * v) := by
  rw [zfill4 hr hr', S_eq (x := v) (by omega), S_eq (x := r + 10000 * v) (by omega)]
  have := dec4 (v := v.toNat) (r := r.toNat) (by omega) (by omega)
  rw [show (r + 10000 * v).toNat = 10000 * v.toNat + r.toNat by omega, this]
  show Str.mk _ = _
  congr 1
  simp
theorem zfill4_len {r : Int} (h0 : 0 ≤ r) (h1 : r < 10000) : (Txt.zfill (S r) 4).length = 4 := by rw [zfill4 h0 h1]; rfl
theorem S_len {r : Int} (h0 : 0 ≤ r) (h1 : r < 10000) : (S r).length ≤ 4 := by
  rw [S_eq h0]
  have := dec_len (r := r.toNat) (by omega)
  simpa [Str.length] using this
theorem S_neg {x : Int} (h : x < 0) : S x = Str.ofString "-" ++ S (-x) := by
  obtain ⟨n, hn⟩ := Int.eq_negSucc_of_lt_zero h
  subst hn
  show Str.ofString (toString (Int.negSucc n)) = Str.ofString "-" ++ Str.ofString (toString (-(Int.negSucc n)))
  have e1 : toString (Int.negSucc n) = "-" ++ toString (n + 1) := rfl
  have e2 : toString (-(Int.negSucc n)) = toString (n + 1) := rfl
  rw [e1, e2, Str.ofString_eq_toList, Str.ofString_eq_toList, Str.ofString_eq_toList, String.toList_append]
  show Str.mk _ = Str.mk _
  congr 1
  simp
theorem dec_len_pow : ∀ (k n : Nat), n < 10000 ^ k → (dec n).length ≤ 4 * k + 1 := by
  intro k
  induction k with
  | zero => intro n h; rw [show n = 0 by simpa using h, dec_small (by decide)]; simp
  | succ k ih =>
    intro n h
    by_cases hn : n < 10000
    · have := dec_len hn; omega
    · have h2 := ih (n / 10000) (by rw [Nat.pow_succ] at h; exact Nat.div_lt_of_lt_mul (by rw [Nat.mul_comm]; exact h))
      have h3 := dec4 (v := n / 10000) (r := n % 10000) (by omega) (by omega)
      rw [show 10000 * (n / 10000) + n % 10000 = n by omega] at h3
      rw [h3, List.length_append]
      have : (z4 (n % 10000)).length = 4 := rfl
      omega
theorem S_len_le {x : Int} (hx : 0 ≤ x) (hz : (lim x).length ≤ 300) : (S x).length ≤ 2000 := by
  have h1 := lt_pow_len hx
  have h2 := pow_le hz
  have h3 : x.toNat < 10000 ^ 300 := by
    have : x < (10000 : Int) ^ 300 := Int.lt_of_lt_of_le h1 h2
    have h4 : ((x.toNat : Nat) : Int) < ((10000 ^ 300 : Nat) : Int) := by rw [Int.natCast_pow]; rw [show ((x.toNat : Nat) : Int) = x by omega]; exact this
    exact Int.ofNat_lt.mp h4
  have := dec_len_pow 300 _ h3
  rw [S_eq hx]
  simp only [Str.length, List.size_toArray]
  omega
end Mine
end
section
namespace Mine
theorem pow_odd (q : Int) (n : Nat) (h : n % 2 = 1) : q ^ n = q * (q * q) ^ (n / 2) := by
  have e : n = 2 * (n / 2) + 1 := by omega
  rw [show (q * q) ^ (n / 2) = q ^ (2 * (n / 2)) by rw [Int.pow_mul, Int.pow_succ, Int.pow_succ, Int.pow_zero, Int.one_mul]]
  conv => lhs; rw [e]
  rw [Int.pow_succ, Int.mul_comm]
theorem pow_even (q : Int) (n : Nat) (h : n % 2 = 0) : q ^ n = (q * q) ^ (n / 2) := by
  have e : n = 2 * (n / 2) := by omega
  rw [show (q * q) ^ (n / 2) = q ^ (2 * (n / 2)) by rw [Int.pow_mul, Int.pow_succ, Int.pow_succ, Int.pow_zero, Int.one_mul]]
  conv => lhs; rw [e]
theorem pow_ge1 {q : Int} (h : 1 ≤ q) : ∀ n : Nat, 1 ≤ q ^ n
  | 0 => by simp
  | n + 1 => by
    rw [Int.pow_succ]
    have := pow_ge1 h n
    calc (1 : Int) = 1 * 1 := rfl
      _ ≤ q ^ n * q := Int.mul_le_mul this h (by decide) (by omega)
theorem pow_ge_self {q : Int} (h : 1 ≤ q) {n : Nat} (hn : 0 < n) : q ≤ q ^ n := by
  obtain ⟨m, rfl⟩ : ∃ m, n = m + 1 := ⟨n - 1, by omega⟩
  rw [Int.pow_succ]
  have := pow_ge1 h m
  calc q = 1 * q := (Int.one_mul _).symm
    _ ≤ q ^ m * q := Int.mul_le_mul_of_nonneg_right this (by omega)
theorem mul_ge_l {p q : Int} (hp : 1 ≤ p) (hq : 1 ≤ q) : p ≤ p * q := by
  calc p = p * 1 := (Int.mul_one _).symm
    _ ≤ p * q := Int.mul_le_mul_of_nonneg_left hq (by omega)
theorem mul_ge_r {p q : Int} (hp : 1 ≤ p) (hq : 1 ≤ q) : q ≤ p * q := by rw [Int.mul_comm]; exact mul_ge_l hq hp
theorem mul_ge1 {p q : Int} (hp : 1 ≤ p) (hq : 1 ≤ q) : 1 ≤ p * q := Int.le_trans hp (mul_ge_l hp hq)
def fct : Nat → Int
  | 0 => 1
  | n + 1 => (n + 1 : Nat) * fct n
def fib : Nat → Int
  | 0 => 0
  | 1 => 1
  | n + 2 => fib n + fib (n + 1)
theorem fct_b : ∀ k, k ≤ 18 → 0 ≤ fct k ∧ fct k < 10000000000000000 := by decide
def fibp : Nat → Int × Int
  | 0 => (0, 1)
  | n + 1 => ((fibp n).2, (fibp n).1 + (fibp n).2)
theorem fibp_eq : ∀ n, fibp n = (fib n, fib (n + 1))
  | 0 => rfl
  | n + 1 => by rw [fibp, fibp_eq n]; rfl
theorem fib_b (k : Nat) (h : k ≤ 50) : 0 ≤ fib k ∧ fib k < 100000000000 := by
  have : ∀ k, k ≤ 50 → 0 ≤ (fibp k).1 ∧ (fibp k).1 < 100000000000 := by decide +kernel
  have := this k h
  rw [fibp_eq] at this
  exact this
theorem len_b {x : Int} (h0 : 0 ≤ x) (h : x < 100000000000000000000000000000000000000000) : (lim x).length ≤ 11 := len_le_of_lt 11 x h0 (Int.lt_of_lt_of_le h (by decide +kernel))
def hn : Nat → Int
  | 0 => 0 | 1 => 1 | 2 => 3 | 3 => 11 | 4 => 25 | _ => 0
def hdn : Nat → Int
  | 0 => 1 | 1 => 1 | 2 => 2 | 3 => 6 | 4 => 12 | _ => 1
theorem h_step : ∀ k, k < 4 → ((hn k * ((k : Int) + 1) + 1 * hdn k).natAbs : Int) / Int.gcd (hn k * ((k : Int) + 1) + 1 * hdn k) (hdn k * ((k : Int) + 1)) = hn (k + 1) ∧
    ((hdn k * ((k : Int) + 1)).natAbs : Int) / Int.gcd (hn k * ((k : Int) + 1) + 1 * hdn k) (hdn k * ((k : Int) + 1)) = hdn (k + 1) ∧ sg ((hn k * ((k : Int) + 1) + 1 * hdn k) * (hdn k * ((k : Int) + 1))) = sg (hn (k + 1)) := by decide
theorem h_b : ∀ k, k ≤ 4 → 0 ≤ hn k ∧ hn k ≤ 25 ∧ 0 < hdn k ∧ hdn k ≤ 12 := by decide
end Mine
end
section
namespace Mine
theorem limbs_step {T R : List Int} {k : Int} (h : T ++ lim k = R) (hk : 0 < k) : (T ++ [k % 10000]) ++ lim (k / 10000) = R := by
  rw [← h, lim_pos hk]; simp
theorem div_lt {k : Int} {n : Nat} (h : k < 10000 ^ (n + 1)) (h0 : 0 ≤ k) : k / 10000 < 10000 ^ n := by
  rw [Int.pow_succ] at h
  omega
/-- the greatest common divisor among the first i -/
structure Best (a b best : Int) (i : Nat) : Prop where
  pos : 1 ≤ best
  le : best ≤ max 1 i
  da : best ∣ a
  db : best ∣ b
  top : ∀ d : Int, 1 ≤ d → d ≤ i → d ∣ a → d ∣ b → d ≤ best
theorem Best.start (a b : Int) : Best a b 1 0 := ⟨by decide, by omega, Int.one_dvd _, Int.one_dvd _, fun d h1 h2 _ _ => by omega⟩
theorem Best.yes {a b best : Int} {i : Nat} (B : Best a b best i) (ha : a % ((i : Int) + 1) = 0) (hb : b % ((i : Int) + 1) = 0) : Best a b ((i : Int) + 1) (i + 1) :=
  ⟨by omega, by omega, Int.dvd_of_emod_eq_zero ha, Int.dvd_of_emod_eq_zero hb, fun d h1 h2 _ _ => by omega⟩
theorem Best.no {a b best : Int} {i : Nat} (B : Best a b best i) (h : ¬ (a % ((i : Int) + 1) = 0 ∧ b % ((i : Int) + 1) = 0)) : Best a b best (i + 1) :=
  ⟨B.pos, by have := B.le; omega, B.da, B.db, fun d h1 h2 ha hb => by
    by_cases e : d = (i : Int) + 1
    · subst e
      exact absurd ⟨Int.emod_eq_zero_of_dvd ha, Int.emod_eq_zero_of_dvd hb⟩ h
    · exact B.top d h1 (by omega) ha hb⟩
theorem Best.gcd {a b best : Int} {n : Nat} (B : Best a b best n) (hb : b ≠ 0) (hn : Int.gcd a b ≤ n) : best = Int.gcd a b := by
  have h1 : (1 : Int) ≤ Int.gcd a b := by
    have := Int.gcd_pos_of_ne_zero_right a hb
    omega
  have h2 := B.top (Int.gcd a b) h1 (by omega) (Int.gcd_dvd_left ..) (Int.gcd_dvd_right ..)
  have h3 : best ∣ Int.gcd a b := Int.dvd_coe_gcd B.da B.db
  have h4 := Int.le_of_dvd (by omega) h3
  omega
theorem pow8 : (10000 : Int) ^ 8 = 100000000000000000000000000000000 := by decide
end Mine
namespace Mine
def ht : Nat → Int
  | 0 => 0 | 1 => 1 | 2 => 3 | 3 => 11 | 4 => 50 | _ => 0
def hu : Nat → Int
  | 0 => 1 | 1 => 1 | 2 => 2 | 3 => 6 | 4 => 24 | _ => 1
theorem ht_step : ∀ k, k < 4 → ht k * (1 + (k : Int)) + hu k = ht (k + 1) ∧ hu k * (1 + (k : Int)) = hu (k + 1) := by decide
theorem ht_b : ∀ k, k ≤ 4 → 0 ≤ ht k ∧ ht k ≤ 50 ∧ 1 ≤ hu k ∧ hu k ≤ 24 ∧ Int.gcd (ht k) (hu k) ≤ 24 ∧ 0 < Int.gcd (ht k) (hu k) ∧ ht k / Int.gcd (ht k) (hu k) = hn k ∧ hu k / Int.gcd (ht k) (hu k) = hdn k := by decide
def fm1 (n : Int) : Nat := max n.toNat 1
theorem fct_fm1 {n : Int} (h : 0 ≤ n) (h' : n ≤ 18) : fct (min (17 + 1) (fm1 n)) = fct n.toNat := by
  unfold fm1
  by_cases h0 : n = 0
  · subst h0; rfl
  · rw [show min (17 + 1) (max n.toNat 1) = n.toNat by omega]
theorem pr_yes {n : Int} {i : Nat} (h : 2 + (i : Int) ≤ n) : fct (min (i + 1) (fm1 n)) * (2 + (i : Int)) = fct (min (i + 1 + 1) (fm1 n)) := by
  unfold fm1
  rw [show min (i + 1) (max n.toNat 1) = i + 1 by omega, show min (i + 1 + 1) (max n.toNat 1) = i + 1 + 1 by omega, fct, Int.mul_comm]
  congr 1
  omega
theorem pr_no {n : Int} {i : Nat} (h : ¬ 2 + (i : Int) ≤ n) : fct (min (i + 1) (fm1 n)) = fct (min (i + 1 + 1) (fm1 n)) := by
  unfold fm1
  congr 1
  omega
end Mine
end
section
namespace Mine
theorem sg_negI (x : Int) : sg (-x) = -sg x := by unfold sg; split <;> (try split) <;> (try split) <;> (try split) <;> omega
/-- a fraction in lowest terms, and the law's own way to it -/
theorem ratio_facts {a b k : Int} (hk : 0 < k) (hb : b ≠ 0) :
    0 < (Int.gcd a b : Int) ∧ (b / Int.gcd a b ≠ 0) ∧ ((b / Int.gcd a b).natAbs : Int) ≤ b.natAbs ∧ ((a / Int.gcd a b).natAbs : Int) ≤ a.natAbs ∧
    ((a * k).natAbs : Int) / Int.gcd (a * k) (b * k) = ((a / Int.gcd a b).natAbs : Int) ∧ ((b * k).natAbs : Int) / Int.gcd (a * k) (b * k) = ((b / Int.gcd a b).natAbs : Int) ∧
    sg ((a * k) * (b * k)) = sg (a / Int.gcd a b) * sg (b / Int.gcd a b) ∧ (Int.gcd a b : Int) ≤ b.natAbs := by
  have hg : 0 < (Int.gcd a b : Int) := by
    have := Int.gcd_pos_of_ne_zero_right a hb
    omega
  have hgk : (Int.gcd (a * k) (b * k) : Int) = Int.gcd a b * k := by
    rw [Int.gcd_mul_right]
    show ((Int.gcd a b * k.natAbs : Nat) : Int) = _
    rw [Int.natCast_mul, show (k.natAbs : Int) = k by omega]
  rw [hgk]
  obtain ⟨a', ha⟩ : (Int.gcd a b : Int) ∣ a := Int.gcd_dvd_left ..
  obtain ⟨b', hb'⟩ : (Int.gcd a b : Int) ∣ b := Int.gcd_dvd_right ..
  generalize (Int.gcd a b : Int) = g at *
  have e1 : a / g = a' := by rw [ha, Int.mul_ediv_cancel_left _ (by omega)]
  have e2 : b / g = b' := by rw [hb', Int.mul_ediv_cancel_left _ (by omega)]
  have ek : (k.natAbs : Int) = k := by omega
  have eg : (g.natAbs : Int) = g := by omega
  have hb0 : b' ≠ 0 := fun z => hb (by rw [hb', z, Int.mul_zero])
  have le : ∀ c : Int, (c.natAbs : Int) ≤ g * c.natAbs := fun c => by
    have : 1 * (c.natAbs : Int) ≤ g * c.natAbs := Int.mul_le_mul_of_nonneg_right (by omega) (by omega)
    omega
  have na : ∀ c : Int, ((g * c).natAbs : Int) = g * c.natAbs := fun c => by rw [Int.natAbs_mul, Int.natCast_mul, eg]
  have dv : ∀ c : Int, ((g * c * k).natAbs : Int) / (g * k) = c.natAbs := fun c => by
    rw [Int.natAbs_mul, Int.natCast_mul, na, ek, Int.mul_right_comm]
    exact Int.mul_ediv_cancel_left _ (Int.ne_of_gt (Int.mul_pos hg hk))
  rw [e1, e2]
  refine ⟨hg, hb0, ?_, ?_, ?_, ?_, ?_, ?_⟩
  · rw [hb', na]; exact le b'
  · rw [ha, na]; exact le a'
  · rw [ha]; exact dv a'
  · rw [hb']; exact dv b'
  · rw [← sg_mul (a * k), ← sg_mul a k, ← sg_mul b k, ha, hb', ← sg_mul g a', ← sg_mul g b', sg_pos hg, sg_pos hk]
    simp
  · rw [hb', na]
    have : g * 1 ≤ g * (b'.natAbs : Int) := Int.mul_le_mul_of_nonneg_left (by omega) (by omega)
    omega
theorem mul_b {a k B : Int} (hB : 0 ≤ B) (ha : (a.natAbs : Int) ≤ B) (hk : 0 < k) (hk' : k ≤ 10001) : ((a * k).natAbs : Int) ≤ B * 10001 := by
  rw [Int.natAbs_mul, Int.natCast_mul, show (k.natAbs : Int) = k by omega]
  exact Int.mul_le_mul ha hk' (by omega) hB
end Mine
end
section
set_option linter.unusedVariables false
open PySem PySem.W PySem.Calls PyProof.Rows
namespace Mine
/-- a list of texts -/
def SL (xs : List Str) (o : Obj) : Prop := ∃ (l : List (Str × Tok)) (n : Nat), l.map (·.1) = xs ∧ o = lob (strValues l) n
/-- a tuple of ints -/
def TI (xs : List Int) (o : Obj) : Prop := ∃ vs n, IntsAre vs xs ∧ o = tob vs n
section
variable {prog : Program} {w : World} {A : Around} {E : Value → Shared → Prop} {s : Shared} {h₀ h : Heap} {tk : Nat} {L f : Addr} {nm : Str} {scope : Scope} {cd : Value} {ns : List Str} {vs vs' : List (Option Value)} {own own' : Own} {l : Addr} {xs : List Str}
theorem Has.slob (x : Has h l (SL xs)) : Has h l (fun o => ∃ ys k, o = Mine.lob ys k) := let ⟨o, e, vs, n, _, r⟩ := x; ⟨o, e, strValues vs, n, r⟩
theorem r_strI {a : Int} {t : Tok} {Q : Value → Shared → Prop} (ha : a.natAbs < 10000000000000000000000000000000000000000) (q : ∀ t tk', Q (.str (S a) t) (mk s h tk')) : wpAny (model prog w) A (call (.type "str") [.int a t]) Q E (mk s h tk) := by
  refine P.str_of_int ?_ (q _ _)
  by_cases z : a.natAbs = 0
  · rw [z]; decide
  · have := (Nat.log2_lt z (k := 1000)).mpr (Nat.lt_of_lt_of_le ha (by decide +kernel))
    omega
theorem r_zfill {a : Str} {t u : Tok} {Q : Value → Shared → Prop} (q : ∀ t tk', Q (.str (Txt.zfill a 4) t) (mk s h tk')) : wpAny (model prog w) A (call (.builtin "str.zfill") [.str a t, .int 4 u]) Q E (mk s h tk) :=
  SC.zfill (padOk_of (by decide) (by decide)) q
theorem r_join {a : Str} {t : Tok} {Q : Value → Shared → Prop} (hl : Has h l (SL xs)) (hok : JoinOk a xs = true) (q : ∀ t tk', Q (.str (Txt.join a xs) t) (mk s h tk')) : wpAny (model prog w) A (call (.builtin "str.join") [.str a t, .ref l]) Q E (mk s h tk) := by
  obtain ⟨o, e, ys, n, hy, rfl⟩ := hl
  exact SC.join (s := mk s h tk) (l := ys) ⟨_, e, rfl, n, rfl⟩ hy hok q
theorem r_addS {a b : Str} {t u : Tok} {Q : Value → Shared → Prop} (hz : a.length + b.length ≤ 1000000) (q : ∀ t tk', Q (.str (a ++ b) t) (mk s h tk')) : wpAny (model prog w) A (binaryOp .Add (.str a t) (.str b u)) Q E (mk s h tk) :=
  add_str q (by show _ ≤ 2 ^ 24; omega)
theorem r_neS {a b : Str} {t u : Tok} {Q : Value → Shared → Prop} (q : Q (.bool (a != b)) (mk s h tk)) : wpAny (model prog w) A (compareOp .NotEq (.str a t) (.str b u)) Q E (mk s h tk) := PyProof.Rows.ne_str q
theorem r_newS {a : Str} {t : Tok} {Q : Value → Shared → Prop} (X : Fx h₀ L h ns vs own) (q : ∀ l h', Fx h₀ L h' ns vs ((l, SL [a]) :: own) → Q (.ref l) (mk s h' tk)) : wpAny (model prog w) A (newList [.str a t]) Q E (mk s h tk) :=
  wpAny_newObj_type (q _ _ (X.push _ ⟨[(a, t)], 0, rfl, rfl⟩)) (by show (1 : Nat) ≤ 2 ^ 24; decide)
theorem r_appendS {i : Str} {t : Tok} {R : Shared → Prop} (X : Fx h₀ L h ns vs own) (r : Rep l (SL xs) (SL (xs ++ [i])) own own') (hz : xs.length ≤ 1000000) (q : ∀ h', Fx h₀ L h' ns vs own' → R (mk s h' tk)) :
    wpAny (model prog w) A (call (.builtin "list.append") [.ref l, .str i t]) (fun r s₂ => r = .none ∧ R s₂) E (mk s h tk) := by
  obtain ⟨o, e, ys, n, hy, rfl⟩ := X.own_ r.mem
  have hp : h.PlainList l (strValues ys).toArray := ⟨n, e⟩
  refine wpAny_list_append_plain (s := mk s h tk) hp (fun h' hp' hs => ⟨rfl, q h' (X.upd r hs ?_)⟩) (by rw [List.size_toArray]; unfold strValues; rw [List.length_map, ← List.length_map (f := (·.1)), hy]; show _ ≤ 2 ^ 24; omega)
  obtain ⟨n', e'⟩ := hp'
  refine ⟨_, e', ys ++ [(i, t)], n', by simp [hy], by simp [Mine.lob, strValues]⟩
theorem r_tupI {value slice : Expr} {ys : List Int} {k : Int} {u : Tok} {Q : Value → Shared → Prop} (hl : Has h l (TI ys)) (h0 : 0 ≤ k) (hk : k < ys.length) (hz : (ys.length : Int) < 1000) (q : ∀ t, Q (.int (ys.getD k.toNat 0) t) (mk s h tk))
    (hs : subscripted slice false (.ref l) (.int k u) = operate [.ref l, .int k u] (getItem (.ref l) (.int k u)) := by with_unfolding_all rfl) :
    wpAny (model prog w) A (subscriptTail value slice (.ref l) (.int k u)) Q E (mk s h tk) := by
  obtain ⟨o, e, ws, n, hi, rfl⟩ := hl
  have hlt : k.toNat < ys.length := by omega
  obtain ⟨t, ht⟩ := hi.get k.toNat (ys.getD k.toNat 0) (by simp [List.getD, hlt])
  have hT : IsTup (mk s h tk).heap l ws.toArray := ⟨_, e, rfl, n, rfl⟩
  have hlen := hi.length
  refine item_tupleT (j := k.toNat) (x := .int (ys.getD k.toNat 0) t) hT (by omega) (by omega) ?_ (by simpa using ht) (q t) hs
  unfold seqIndex?
  have e1 : ¬ k < 0 := by omega
  have e2 : k < (ws.length : Int) := by omega
  simp [e1, e2, h0]
theorem r_zf {o : Expr} {ap cp p1 : Pos} {k1} {pl : Sem Bool} {Q : Value → Shared → Prop} {env : Env}
    (q : wpAny (model prog w) A (eval o env) (fun ov s₁ => ∃ x t h tk, ov = .str x t ∧ s₁ = mk s h tk ∧ ∀ t' tk', Q (.str (Txt.zfill x 4) t') (mk s h tk')) E (mk s h tk))
    (he : backTo cp (starEach [.Constant (.int 4) k1 p1] env) = [(false, eval (.Constant (.int 4) k1 p1) env)] := by with_unfolding_all rfl)
    (hm : eval (.Call (.Attribute o "zfill" ap) [.Constant (.int 4) k1 p1] [] cp) env = (do
      let ov ← eval o env
      standAt ap.atName
      let (fn, first) ← holding [ov] (getMethod ov "zfill" pl)
      callWith cp fn first (backTo cp (starEach [.Constant (.int 4) k1 p1] env)) []) := by with_unfolding_all rfl) :
    wpAny (model prog w) A (eval (.Call (.Attribute o "zfill" ap) [.Constant (.int 4) k1 p1] [] cp) env) Q E (mk s h tk) := by
  refine MethodCall_ (wpAny_mono q (fun ov s₁ h₁ => ?_) fun _ _ x => x) hm
  obtain ⟨x, t, h, tk, rfl, rfl, q⟩ := h₁
  with_reducible refine GM.zfill ?_
  rw [he]
  exact callWith_builtin rfl (evalArgs_plain (spliced_cons (r_int fun u tk => spliced_nil (r_zfill fun t tk => q t tk))))
theorem r_jn {e : Expr} {ap cp p1 : Pos} {k1} {pl : Sem Bool} {Q : Value → Shared → Prop} {env : Env}
    (q : ∀ tk, wpAny (model prog w) A (eval e env) (fun ov s₁ => ∃ l xs h tk, ov = .ref l ∧ s₁ = mk s h tk ∧ Has h l (SL xs) ∧ JoinOk "" xs = true ∧ ∀ t' tk', Q (.str (Txt.join "" xs) t') (mk s h tk')) E (mk s h tk))
    (he : backTo cp (starEach [e] env) = [(false, eval e env)] := by with_unfolding_all rfl)
    (hm : eval (.Call (.Attribute (.Constant (.str "") k1 p1) "join" ap) [e] [] cp) env = (do
      let ov ← eval (.Constant (.str "") k1 p1) env
      standAt ap.atName
      let (fn, first) ← holding [ov] (getMethod ov "join" pl)
      callWith cp fn first (backTo cp (starEach [e] env)) []) := by with_unfolding_all rfl) :
    wpAny (model prog w) A (eval (.Call (.Attribute (.Constant (.str "") k1 p1) "join" ap) [e] [] cp) env) Q E (mk s h tk) := by
  refine MethodCall_ ?_ hm
  with_reducible refine r_str ?_
  intro t tk
  with_reducible refine GM.join ?_
  rw [he]
  refine callWith_builtin rfl (evalArgs_plain (spliced_cons (wpAny_mono (q tk) (fun ov s₁ h₁ => spliced_nil ?_) fun _ _ x => x)))
  obtain ⟨l, xs, h, tk, rfl, rfl, hl, hok, q⟩ := h₁
  exact r_join hl hok q
end
end Mine
end
section
set_option linter.unusedVariables false
open PySem PySem.W PySem.Calls PyProof.Rows
namespace Mine
def Rd (h : Heap) (v : Value) (d : PyData) : Prop := ∃ as, Reads h v d as
section
variable {h : Heap} {l p : Addr} {xs : List Int} {a b : Value} {da db : PyData}
theorem reads_ints : ∀ {vs : List Value} {ns : List Int}, IntsAre vs ns → ReadsAll h vs (ns.map PyData.int) []
  | _, _, .nil => .nil
  | _, _, .cons n t r => ReadsAll.cons (as := []) (bs := []) (.int n t) (reads_ints r)
theorem Rd.il (x : Has h l (IL xs)) : Rd h (.ref l) (.list (xs.map PyData.int)) := by
  obtain ⟨o, e, vs, n, hi, rfl⟩ := x
  exact ⟨_, Reads.list e rfl rfl (by simpa using reads_ints hi)⟩
theorem Rd.tv (x : Has h p (TV [a, b])) (ra : Rd h a da) (rb : Rd h b db) : Rd h (.ref p) (.tuple [da, db]) := by
  obtain ⟨o, e, n, rfl⟩ := x
  obtain ⟨as, ra⟩ := ra
  obtain ⟨bs, rb⟩ := rb
  exact ⟨_, Reads.tuple e rfl rfl (ReadsAll.cons ra (ReadsAll.cons rb .nil))⟩
theorem Rd.int {i : Int} {t : Tok} : Rd h (.int i t) (.int i) := ⟨_, .int i t⟩
theorem Rd.str {i : Str} {t : Tok} : Rd h (.str i t) (.str i) := ⟨_, .str i t⟩
theorem Rd.pair {i : Int} {t : Tok} (x : Has h p (TV [.int i t, .ref l])) (y : Has h l (IL xs)) : Rd h (.ref p) (.tuple [.int i, .list (xs.map PyData.int)]) := Rd.tv x Rd.int (Rd.il y)
theorem sh_pair (i : Int) (xs : List Int) : SeqAt.shaped (.tuple [.int i, .list (xs.map PyData.int)]) = true := by
  simp [SeqAt.shaped, PyData.canLay0, PyData.canLayAll0, PyData.depth, PyData.depthAll, ke_canLayAll0, ke_depthAll]
theorem sh_lists (xs ys : List Int) : SeqAt.shaped (.tuple [.list (xs.map PyData.int), .list (ys.map PyData.int)]) = true := by
  simp [SeqAt.shaped, PyData.canLay0, PyData.canLayAll0, PyData.depth, PyData.depthAll, ke_canLayAll0, ke_depthAll]
theorem sh_strs {x y : Str} (hx : PyData.strOk x = true) (hy : PyData.strOk y = true) : SeqAt.shaped (.tuple [.str x, .str y]) = true := by
  simp [SeqAt.shaped, PyData.canLay0, PyData.canLayAll0, PyData.depth, PyData.depthAll, hx, hy]
end
section
variable {prog : Program} {w : World} {A : Around} {E : Value → Shared → Prop} {s : Shared} {h₀ h : Heap} {tk d : Nat} {L f p : Addr} {ns : List Str} {vs vs' : List (Option Value)} {own own' : Own}
theorem r_neD {a b : Value} {D : PyData} {Q : Value → Shared → Prop} (ao : AOk A d) (ra : Rd h a D) (rb : Rd h b D) (sh : SeqAt.shaped D = true) (q : Q (.bool false) (mk s h tk)) : wpAny (model prog w) A (compareOp .NotEq a b) Q E (mk s h tk) := by
  obtain ⟨as, ra⟩ := ra
  obtain ⟨bs, rb⟩ := rb
  refine ne_dataH (s := mk s h tk) ra rb sh sh (by have := ao.units; show _ < 9900; omega) ?_
  rw [SeqAt.eqv_refl D (SeqAt.canLay_of_shaped sh)]
  exact q
theorem r_typeT {ws : List Value} {Q : Value → Shared → Prop} (hp : Has h p (TV ws)) (q : Q (.type "tuple") (mk s h tk)) : wpAny (model prog w) A (call (.type "type") [.ref p]) Q E (mk s h tk) := by
  obtain ⟨o, e, n, rfl⟩ := hp
  exact call_type_obj e (show (Value.type "tuple" == Value.type "builtin_function_or_method") = false by decide +kernel) q
theorem r_typeI {i : Int} {t : Tok} {Q : Value → Shared → Prop} (q : Q (.type "int") (mk s h tk)) : wpAny (model prog w) A (call (.type "type") [.int i t]) Q E (mk s h tk) :=
  call_type_of (Tx := "int") rfl (by decide +kernel) q
theorem r_isT {M : Model} {a : String} {Q : Value → Shared → Prop} (q : Q (.bool true) s) : wpAny M A (compareOp .Is (.type a) (.type a)) Q E s := wpAny_is_self rfl q
theorem r_testCall {fn : Expr} {args : List Expr} {kws} {pos : Pos} {env : Env} {M : Model} {Q : Bool → Shared → Prop} (q : wpAny M A (eval (.Call fn args kws pos) env) (fun v s₁ => wpAny M A (truthy v) Q E s₁) E s) :
    wpAny M A (isTrue (.Call fn args kws pos) env (eval (.Call fn args kws pos) env)) Q E s := isTrue_plain q
theorem r_testName {x : Str} {pos : Pos} {env : Env} {M : Model} {Q : Bool → Shared → Prop} (q : wpAny M A (eval (.Name x pos) env) (fun v s₁ => wpAny M A (truthy v) Q E s₁) E s) :
    wpAny M A (isTrue (.Name x pos) env (eval (.Name x pos) env)) Q E s := isTrue_plain q
theorem r_pow2 {n : Int} {t u : Tok} {Q : Value → Shared → Prop} (hn : 0 ≤ n) (hn' : n < 1000) (q : ∀ t tk', Q (.int (2 ^ n.toNat) t) (mk s h tk')) : wpAny (model prog w) A (binaryOp .Pow (.int 2 t) (.int n u)) Q E (mk s h tk) :=
  pow_int hn (by rw [show (Builtin.Int.intBits 2 : Int) = 2 by decide +kernel]; omega) (q _ _)
theorem if_nt {P Q : Prop} (h : Q) : if (!true) = true then P else Q := h
theorem if_nf {P Q : Prop} (h : P) : if (!false) = true then P else Q := h
end
end Mine
end
section
set_option linter.unusedVariables false
open PySem PySem.W PySem.Calls PyProof.Rows
namespace Mine
section
variable {M : Model} {A : Around} {E : Value → Shared → Prop} {s : Shared}
theorem gcode {env : Env} {c P : Addr} {ps : Array Value} {pos : Pos} {qualname : Str} {scope : Scope} {Q : Value → Shared → Prop} (hc : env.code = .ref c) (hok : s.heap.IsCode c P ps) (htab : s.heap.TableAt c P ps)
    (hQ : ∀ cv more h' tk, Heap.ExtBut P s.heap h' → s.heap.objs.size ≤ h'.objs.size → h'.IsCode c P (ps ++ more) → h'.TableAt c P (ps ++ more) → Q cv { s with heap := h', toks := tk }) :
    wpAny M A (genexprCode env pos qualname scope) Q E s := by
  cases hf : codeAmong pos ps.toList with
  | some cv => exact wpAny_genexprCode_hit hc hok hf (hQ cv #[] s.heap s.toks (.refl _ _) (Nat.le_refl _) (by simpa using hok) (by simpa using htab))
  | none => exact wpAny_genexprCodeX hc hok htab hf fun c' h' tk hx h1 h2 hc' _ ht' _ => hQ _ _ h' tk hx (Nat.le_trans h1 (Nat.le_of_lt h2)) hc' ht'
end
section
variable {prog : Program} {w : World} {A : Around} {E : Value → Shared → Prop} {s : Shared} {h₁ h₀ h : Heap} {tk d : Nat} {L f c P bm : Addr} {ps : Array Value} {mg : Str → Option Value} {ob : Obj} {nm : Str} {scope gsc : Scope} {cd : Value} {ns : List Str} {vs : List (Option Value)} {own : Own} {T : List (Str × Value)} {K : List (Addr × Obj)} {l : Addr} {xs : List Int}
structure GOk (gsc : Scope) : Prop where
  co : gsc.isCoroutine = false
  cell : ∀ y ∈ gsc.names, y.2 ≠ .cell
  dot : gsc.names.lookup (".0" : Str) = some NameKind.local
  v : gsc.names.lookup ("v" : Str) = some .local
  ty : gsc.names.lookup ("type" : Str) = some .globalImplicit
  it : gsc.names.lookup ("int" : Str) = some .globalImplicit
  kind : gsc.kind = .function
theorem globE {env : Env} {x : Str} {pos : Pos} {v : Value} {Q : Value → Shared → Prop} {M : Model} {u : Shared} (hk : env.scope.kind = .function) (hx : env.kindOf x = some .globalImplicit) (hg : env.globals = mainGlobals) (hb : env.builtins = builtinsNs)
    (gl : ∃ G B, u.heap.Ns mainGlobals G ∧ u.heap.Ns builtinsNs B ∧ Gv G B x v) (hd : (x == ("__debug__" : Str)) = false) (q : Q v u) : wpAny M A (eval (.Name x pos) env) Q E u := by
  obtain ⟨G, B, h1, h2, r⟩ := gl
  refine Name_function_global hk hx ?_ hd
  rcases r with z | ⟨z, z'⟩
  · exact loadGlobal_global (by rw [hg]; exact h1) z q
  · exact loadGlobal_builtin (by rw [hg]; exact h1) z (by rw [hb]; exact h2) z' q
theorem r_allgen {iter : Expr} {px p1 p2 p3 p4 p5 pos : Pos} {cl : List (Str × Addr)} {Q : Value → Shared → Prop}
    (X : Fx h₀ L h ns vs own) (W : Wd T K h₀) (B : Based h₁ h₀ c P ps) (M : BMod h₀ mainGlobals mg bm ob) (hcd : cd = .ref c) (G : AllBare s.gens) (ao : AOk A d) (hl : Has h l (IL xs)) (tT : (("type" : Str), .type "type") ∈ T) (tI : (("int" : Str), .type "int") ∈ T) (g : GOk gsc)
    (hclos : closureFor gsc (envOf nm scope L f cd) = pure cl) (hs : ∀ x, genFold iter (envOf nm scope L f cd) x = pure x)
    (it : wpAny (model prog w) A (eval iter (envOf nm scope L f cd)) (fun v s₁ => v = .ref l ∧ ∃ tk', s₁ = mk s h tk') E (mk s h tk))
    (q : ∀ s' g more h' tk', AllBare s'.gens → s'.os = s.os → Based h₁ g c P (ps ++ more) → Fx g L h' ns vs own → Q (.bool true) (mk s' h' tk')) :
    wpAny (model prog w) A (eval (.GeneratorExp (.Compare (.Call (.Name "type" p1) [.Name "v" p2] [] p3) [.Is] [.Name "int" p4] p5) [⟨.Name "v" px, iter, [], 0⟩] gsc pos) (envOf nm scope L f cd)) (fun v s₁ => wpAny (model prog w) A (call (.builtin "all") [v]) Q E s₁) E (mk s h tk) := by
  refine wpAny_GeneratorExp_walksQ (x := "v") ao.handled g.co hclos g.cell g.dot g.v g.kind (by have := ao.depth; omega) (wpAny_mono it (fun xv s₁ h₁' => ?_) fun _ _ e => e) hs
  obtain ⟨rfl, tk', rfl⟩ := h₁'
  obtain ⟨ws, n, hi, e⟩ := hl.il
  have hL : h.IsList l ws.toArray := ⟨_, e, rfl, n, rfl⟩
  have hlt : l < h.objs.size := Heap.lt_size e
  have hPl : h₀.get? P = some _ := B.tab.2
  have hPh := X.fr.keep _ _ hPl
  have hPlt : P < h.objs.size := Heap.lt_size hPh
  have Wh := W.keeps X.fr.keep
  have hlP : l ≠ P := fun z => by rw [z, hPh] at e; cases e
  refine wpAny_pyIter_list (s := mk s h tk') hL ?_
  have hcode := (B.codeAt X.fr).push { cls := .type "list_iterator", data := .fields #[.ref l, .int 0 0] }
  have htab := (B.tabAt X.fr).keeps (h' := h.push { cls := .type "list_iterator", data := .fields #[.ref l, .int 0 0] }) fun _ _ e => Heap.get?_push_of_some _ e
  refine ⟨Wh.nl.push _, gcode (env := envOf nm scope L f cd) (c := c) (P := P) (ps := ps) hcd hcode htab fun cv more h₃ tk₃ hx₃ hsz hcode₃ htab₃ => ?_⟩
  have M₃ : BMod h₃ mainGlobals mg bm ob := ((M.keeps X.fr.keep).keeps (h' := h.push _) fun _ _ e => Heap.get?_push_of_some _ e).extBut htab hx₃
  have hszp : (h.push { cls := .type "list_iterator", data := .fields #[.ref l, .int 0 0] }).objs.size = h.objs.size + 1 := Heap.size_push ..
  have hsz' : h.objs.size + 1 ≤ h₃.objs.size := by rw [← hszp]; exact hsz
  have keep3 : ∀ b o, b ≠ P → h.get? b = some o → h₃.get? b = some o := fun b o hb e => hx₃ b o hb (Heap.get?_push_of_some _ e)
  have nsNe : ∀ {a : Addr} {m : Str → Option Value}, h.Ns a m → a ≠ P := fun hn z => by
    obtain ⟨o, es, ep, ho, hd, _⟩ := hn
    rw [z, hPh] at ho; cases ho; cases hd
  have hcP : cStatics ≠ P := by
    obtain ⟨_, hns, _⟩ := Wh.nl
    exact nsNe hns
  have hcl : cStatics < h.objs.size := let ⟨_, hn, _⟩ := Wh.nl; hn.lt
  have hl₃ : h₃.NoLimit := (Wh.nl.push _).extBut hx₃ hcP
  refine wpAny_builtinsFor M₃.ns M₃.name M₃.ne M₃.obj M₃.cls M₃.dict M₃.data ?_
  have hst3 : h₃.get? h.objs.size = some { cls := .type "list_iterator", data := .fields #[.ref l, .int 0 0] } := hx₃ _ _ (Nat.ne_of_gt hPlt) (Heap.get?_push_size _ rfl)
  refine ⟨h.objs.size, [h.objs.size, l], [h.objs.size], ws.toArray.size, _, _, (fun _ => true), (fun _ y => y = .bool true), rfl, (fun A' hA => Walks.list hA _ _ (Nat.ne_of_lt hlt) ws.toArray), ⟨⟨_, hst3, rfl, rfl⟩, ⟨_, keep3 _ _ hlP e, rfl, n, rfl⟩⟩, ?_, hl₃, ?_, ?_, ?_⟩
  · intro b hb
    show b < h₃.objs.size
    rcases List.mem_cons.mp hb with rfl | hb
    · exact hsz'
    · rw [List.mem_singleton.mp hb]; exact Nat.lt_trans hlt hsz'
  · intro hb
    exact Nat.lt_irrefl _ ((show cStatics = h.objs.size from List.mem_singleton.mp hb) ▸ hcl)
  · intro href hhref
    refine ⟨fun A' E' i v u m₂ hA hP hn hm hk => wpAny_pure ⟨rfl, u.heap, u.toks, rfl, fun _ _ e => e⟩, fun A' E' i v u m₂ hA hP hp hn hm hk => ?_⟩
    have kp : ∀ b o, b ≠ P → h.get? b = some o → u.heap.get? b = some o := fun b o hb e => by
      have h3 := keep3 b o hb e
      exact hk b (List.mem_range.mpr (Heap.lt_size h3)) (fun z => Nat.lt_irrefl _ (List.mem_singleton.mp z ▸ Heap.lt_size e)) o (hhref b o h3)
    have gl : ∀ p ∈ T, ∃ G B, u.heap.Ns mainGlobals G ∧ u.heap.Ns builtinsNs B ∧ Gv G B p.1 p.2 := fun p hp => by
      obtain ⟨G, B, h1, h2, r⟩ := Wh.gl
      exact ⟨G, B, h1.at' fun o e => kp _ o (nsNe h1) e, h2.at' fun o e => kp _ o (nsNe h2) e, r p hp⟩
    obtain ⟨i', t', hv⟩ : ∃ i' t', v = .int i' t' := by
      have hv' : ws[i]? = some v := by simpa using hP
      have hlt : i < xs.length := by
        rw [← hi.length]
        rcases Nat.lt_or_ge i ws.length with z | z
        · exact z
        · rw [List.getElem?_eq_none z] at hv'; cases hv'
      obtain ⟨t, ht⟩ := hi.get i (xs.getD i 0) (by simp [List.getD, hlt])
      rw [ht] at hv'
      cases hv'
      exact ⟨_, _, rfl⟩
    subst hv
    refine wpAny_Compare1 (wpAny_Call_NameR ?_)
    refine globE g.kind g.ty rfl rfl (gl _ tT) (by decide) ?_
    have he : backTo p3 (starEach [.Name "v" p2] (genEnv gsc cl h₃.objs.size cv builtinsNs (envOf nm scope L f cd))) = [(false, eval (.Name "v" p2) (genEnv gsc cl h₃.objs.size cv builtinsNs (envOf nm scope L f cd)))] := by with_unfolding_all rfl
    show wpAny _ _ (callWith p3 (.type "type") [] (backTo p3 (starEach [.Name "v" p2] (genEnv gsc cl h₃.objs.size cv builtinsNs (envOf nm scope L f cd)))) []) _ _ _
    rw [he]
    refine PyProof.Rows.callWith_type rfl (evalArgs_plain (spliced_cons (wpAny_Name (wpAny_loadName_local g.kind g.v hn hm (spliced_nil ?_)) (by decide))))
    refine call_type_of (Tx := "int") rfl (by decide +kernel) ?_
    refine globE g.kind g.it rfl rfl (gl _ tI) (by decide) ?_
    exact wpAny_is_self rfl ⟨rfl, u.heap, u.toks, rfl, fun _ _ e => e⟩
  · intro a h₅ tk₅ gs hgb hag hsz₅ hk₅ Wk hat
    have W1 := Wk.in4_1
    refine call_all_walkS (W1.self 0 _ _ _ hat ⟨a, _, _, _, _, _, _, (fun _ => true), rfl, W1, hat, ?_, fun s' hm => ?_⟩)
    · rintro i v s Q E ⟨j, _, rfl⟩ hQ
      exact wpAny_truthy_bool hQ
    · have kp : ∀ b o, b < h.objs.size → h₃.get? b = some o → s'.heap.get? b = some o := fun b o hb e => hm.heap b o (fun z => by
        rcases List.mem_cons.mp z with z | z
        · exact Nat.lt_irrefl _ (Nat.lt_trans ((show b = h₃.objs.size from z) ▸ hb) hsz')
        · exact Nat.lt_irrefl _ ((show b = h.objs.size from List.mem_singleton.mp z) ▸ hb)) (hk₅ b o e)
      have hclt : c < h.objs.size := (B.codeAt X.fr).lt.1
      have hext : Heap.ExtBut P h s'.heap := fun b o hb e => kp b o (Heap.lt_size e) (keep3 b o hb e)
      have hcS : s'.heap.IsCode c P (ps ++ more) := by
        obtain ⟨o, vs, file, tf, flags, tg, inF, text, tt, op, a1, r1, r2, r3, r4, r5, r6, b1, r⟩ := hcode₃
        exact ⟨o, vs, file, tf, flags, tg, inF, text, tt, op, kp _ _ hclt a1, r1, r2, r3, r4, r5, r6, kp _ _ hPlt b1, r⟩
      have htS : s'.heap.TableAt c P (ps ++ more) := by
        obtain ⟨⟨o, vs, a1, r⟩, t1⟩ := htab₃
        exact ⟨⟨o, vs, kp _ _ hclt a1, r⟩, kp _ _ hPlt t1⟩
      obtain ⟨B', F'⟩ := B.grow X.fr hext hcS htS
      have hall : (List.range (passing (fun _ => true) ws.toArray.size 0).length).all (fun _ => true) = true := by simp
      rw [hall]
      refine q s' _ _ s'.heap s'.toks ((G.push hgb).movedS hm) hm.os B' ⟨F', fun e he => ?_, fun e he => ?_, X.nd, X.len⟩
      · obtain ⟨o, ho, hp⟩ := X.has e he
        refine ⟨o, hext _ _ (fun z => ?_) ho, hp⟩
        have := (X.off e he).2
        rw [z, hPl] at this; cases this
      · refine ⟨(X.off e he).1, ?_⟩
        have := (X.off e he).2
        have hne : e.1 ≠ P := fun z => by rw [z, hPl] at this; cases this
        exact (Heap.get?_update_other _ _ (Ne.symm hne)).trans this
end
end Mine
end
section
set_option linter.unusedVariables false
open PySem PySem.W PySem.Calls PyProof.Rows
namespace Mine
section
variable {h₁ h₀ h h' g : Heap} {L c P l p : Addr} {ps more : Array Value} {ns : List Str} {vs : List (Option Value)} {own new : Own} {T : List (Str × Value)} {K : List (Addr × Obj)} {xs : List Int} {ws : List Value}
theorem based_ns {m : Str → Option Value} {a : Addr} (B : Based h₁ g c P ps) (hn : h₁.Ns a m) : g.Ns a m := by
  obtain ⟨ps₁, t⟩ := B.tab₁
  have hne : a ≠ P := fun z => by
    obtain ⟨o, es, ep, ho, hd, _⟩ := hn
    rw [z, t.2] at ho; cases ho; cases hd
  exact hn.at' fun o e => (B.same.2 a hne).trans e
theorem Wd.based (W : Wd T K h₁) (B : Based h₁ g c P ps) (hK : K.lookup P = none) : Wd T K g := by
  refine ⟨?_, ?_, fun a o e => ?_⟩
  · obtain ⟨G, Bn, h1, h2, r⟩ := W.gl
    exact ⟨G, Bn, based_ns B h1, based_ns B h2, r⟩
  · obtain ⟨ps₁, t⟩ := B.tab₁
    exact W.nl.extBut B.same.extBut (Ne.symm B.notStatics)
  · have hne : a ≠ P := fun z => by rw [z, hK] at e; cases e
    exact (B.same.2 a hne).trans (W.kx a o e)
theorem Has.ilB (x : Has h₁ l (IL xs)) (B : Based h₁ g c P ps) : Has g l (IL xs) := by
  obtain ⟨o, e, vs, n, hi, rfl⟩ := x
  exact ⟨_, B.get e (by show Value.type "list" ≠ Value.none; nofun), vs, n, hi, rfl⟩
theorem Has.tvB (x : Has h₁ l (TV ws)) (B : Based h₁ g c P ps) : Has g l (TV ws) := by
  obtain ⟨o, e, n, rfl⟩ := x
  exact ⟨_, B.get e (by show Value.type "tuple" ≠ Value.none; nofun), n, rfl⟩
def Wg (h : Heap) : Prop := ∃ mg bm ob, BMod h mainGlobals mg bm ob
theorem Wg.keeps (x : Wg h) (k : ∀ b o, h.get? b = some o → h'.get? b = some o) : Wg h' := let ⟨mg, bm, ob, M⟩ := x; ⟨mg, bm, ob, M.keeps k⟩
theorem Wg.based (x : Wg h₁) (B : Based h₁ g c P ps) : Wg g := by
  obtain ⟨mg, bm, ob, M⟩ := x
  obtain ⟨ps₁, t⟩ := B.tab₁
  exact ⟨mg, bm, ob, M.extBut t B.same.extBut⟩
theorem Fx.regrow (X : Fx h₀ L h ns vs own) (B : Based h₁ h₀ c P ps) (B' : Based h g c P (ps ++ more)) (gn : Gain g h' new) : ∃ g₀, Based h₁ g₀ c P (ps ++ more) ∧ Fx g₀ L h' ns vs (new ++ own) := by
  have hP0 := B.tab.2
  have hPh := X.fr.keep _ _ hP0
  have hext : Heap.ExtBut P h h' := fun b o hb e => gn.keep b o ((B'.same.2 b hb).trans e)
  obtain ⟨B₁, F₁⟩ := B.grow X.fr hext (B'.code.keeps gn.keep) (B'.tab.keeps gn.keep)
  have ne : ∀ {b}, h₀.get? b = none → b ≠ P := fun e z => by rw [z, hP0] at e; cases e
  have back : ∀ {b}, h₀.get? b = none → (regrown h₀ P (ps ++ more)).get? b = none := fun e => (Heap.get?_update_other _ _ (Ne.symm (ne e))).trans e
  have newNe : ∀ e ∈ new, e.1 ≠ P := fun e he z => by
    have := gn.fresh e he
    rw [z, B'.tab.2] at this; cases this
  have newH : ∀ e ∈ new, h.get? e.1 = none := fun e he => (B'.same.2 _ (newNe e he)).symm.trans (gn.fresh e he)
  obtain ⟨oL, es, ep, hL, r⟩ := X.fr.ns
  refine ⟨_, B₁, F₁, fun e he => ?_, fun e he => ?_, ?_, X.len⟩
  · rcases List.mem_append.mp he with q | q
    · exact gn.has e q
    · obtain ⟨o, ho, hp⟩ := X.has e q
      exact ⟨o, hext _ _ (ne (X.off e q).2) ho, hp⟩
  · rcases List.mem_append.mp he with q | q
    · refine ⟨fun z => ?_, back ?_⟩
      · have := newH e q
        rw [z, hL] at this; cases this
      · cases z : h₀.get? e.1 with
        | none => rfl
        | some o => have := newH e q; rw [X.fr.keep _ _ z] at this; cases this
    · exact ⟨(X.off e q).1, back (X.off e q).2⟩
  · rw [List.map_append]
    refine List.nodup_append.mpr ⟨gn.nd, X.nd, fun a ha b hb z => ?_⟩
    obtain ⟨e, he, rfl⟩ := List.mem_map.mp ha
    obtain ⟨e', he', rfl⟩ := List.mem_map.mp hb
    obtain ⟨o, ho, _⟩ := X.has e' he'
    have := newH e he
    rw [z, ho] at this; cases this
theorem Fx.start (X : Fx h₀ L h ns vs own) (B : Based h₁ h₀ c P ps) : Based h h c P ps := Based.start (B.codeAt X.fr) (B.tabAt X.fr) B.notStatics
end
section
variable {prog : Program} {w : World} {A : Around} {E : Value → Shared → Prop} {s : Shared} {h : Heap} {tk : Nat} {f : Addr} {ns gs : List Str} {vs : List (Option Value)}
theorem enterKc {T : List (Str × Value)} {K : List (Addr × Obj)} {name qual : Str} {params : Arguments} {body body' : List Stmt} {scope : Scope} {dV kV doc pm cdv ct oc : Value} {an od : Option Addr} {osl : Array (Option Value)} {args : List Value} {binds : List (Str × Value)} {Q : Value → Shared → Prop} {d : Nat}
    (W : Wd T K h) (ao : AOk A (d + 1)) (ho : K.lookup f = some ⟨oc, od, .func (fnOf name qual params body scope dV kV doc pm an cdv ct), osl⟩) (hb : body = body') (hcd : codeIn K cdv qual = true)
    (hbind : bindArgs (fnOf name qual params body scope dV kV doc pm an cdv ct) ⟨args, []⟩ = pure binds) (hok : okScope scope ns gs = true) (en : Ent binds ns vs)
    (q : ∀ A' nm scope f cd L h₁ tk', cd = cdv → Fx h L h₁ ns vs [] → AOk A' d → Sc scope ns → Gs scope gs → wpAny (model prog w) A' (execs body' (envOf nm scope L f cd)) (RetQ Q) E0 (mk s h₁ tk')) :
    CallF prog w A f args Q E (mk s h tk) := by
  subst hb
  obtain ⟨sc, g, hcell, hgen, hco⟩ := okScope_of hok
  exact enter ao (W.kx _ _ ho) rfl (codeRec_of (K := K) W.kx hcd) W.nl (fun _ => rfl) rfl hbind hcell hgen hco sc en fun L h₁ tk' X a => q _ _ _ _ _ L h₁ tk' rfl X a sc g
end
end Mine
end
section
set_option linter.unusedVariables false
open PySem PySem.W PySem.Calls PyProof.Rows
namespace Mine
/-- the frames on the stack -/
structure Frs (A : Around) (fs : List Env) (h : Heap) : Prop where
  stack : A.frames = some fs
  frames : h.FunFrames (hideAll h (fs.filterMap (·.frame))) fs
/-- an exception on its way -/
def Thrown (cls : String) (fs : List Env) (h h' : Heap) (e : Addr) : Prop :=
  (∃ t, Heap.FlyingW (hideAll h (fs.filterMap (·.frame))) fs e (.type cls) (.ref t) h') ∧ h.UpToSlots h'
section
variable {prog : Program} {w : World} {A : Around} {E : Value → Shared → Prop} {s : Shared} {h : Heap} {tk : Nat} {f : Addr} {ns gs : List Str} {vs : List (Option Value)}
theorem enterE {T : List (Str × Value)} {K : List (Addr × Obj)} {name qual : Str} {params : Arguments} {body body' : List Stmt} {scope : Scope} {dV kV doc pm cdv ct oc : Value} {an od : Option Addr} {osl : Array (Option Value)} {args : List Value} {binds : List (Str × Value)} {Q : Value → Shared → Prop} {d : Nat} {fs : List Env} {cls : String}
    (W : Wd T K h) (ao : AOk A (d + 1)) (fr : Frs A fs h) (thr : ∀ a h' tk', Thrown cls fs h h' a → E (.ref a) (mk s h' tk')) (ho : K.lookup f = some ⟨oc, od, .func (fnOf name qual params body scope dV kV doc pm an cdv ct), osl⟩) (hb : body = body') (hcd : codeIn K cdv qual = true)
    (hbind : bindArgs (fnOf name qual params body scope dV kV doc pm an cdv ct) ⟨args, []⟩ = pure binds) (hok : okScope scope ns gs = true) (en : Ent binds ns vs)
    (q : ∀ A' nm scope f cd L h₁ tk' E', Fx h L h₁ ns vs [] → AOk A' d → Sc scope ns → Gs scope gs →
      (∀ e hm h' tk vs' own' as, Fx h L hm ns vs' own' → Heap.MadeExcOf hm h' e (.type cls) as → E' (.ref e) (mk s h' tk)) → wpAny (model prog w) A' (execs body' (envOf nm scope L f cd)) (RetQ Q) E' (mk s h₁ tk')) :
    CallF prog w A f args Q E (mk s h tk) := by
  subst hb
  obtain ⟨sc, g, hcell, hgen, hco⟩ := okScope_of hok
  have ho' := W.kx _ _ ho
  refine ⟨⟨_, _, ho', rfl⟩, wpAny_call (codeAny_call_def (s := mk s h tk) (fd := fnOf name qual params body scope dV kV doc pm an cdv ct) (body := body) (binds := binds) (by have := ao.depth; omega) ho' rfl W.nl (codeRec_of (K := K) W.kx hcd) rfl (.of_eq hbind) hcell
    (fun x hx => sc.loc _ (en.names x hx)) (fun h₁ hns hk => ?_) hco hgen sc.kind)⟩
  have henv : callEnv (fnOf name qual params body scope dV kV doc pm an cdv ct) h.objs.size f = envOf qual scope h.objs.size f cdv := rfl
  show wpAny _ (A.deeper (callEnv (fnOf name qual params body scope dV kV doc pm an cdv ct) h.objs.size f)) (execs body (callEnv (fnOf name qual params body scope dV kV doc pm an cdv ct) h.objs.size f)) _ _ _
  rw [henv]
  have X : Fx h h.objs.size h₁ ns vs [] := ⟨⟨en.eq sc.nd ▸ hns, hk, Nat.le_refl _⟩, (fun _ h => nomatch h), (fun _ h => nomatch h), by simp, en.len⟩
  refine wpAny_mono (q _ _ _ _ _ _ h₁ (tk + binds.length) (fun e s' => wpAny (model prog w) (A.deeper (envOf qual scope h.objs.size f cdv)) (leaving (envOf qual scope h.objs.size f cdv) e) (fun _ s'' => E e s'') (fun e' s'' => E e' s'') s') X ao.deeper sc g fun e hm h' tk vs' own' as X' hx => ?_)
    (fun fl s' hq => hq) fun e s' x => ?_
  · have B : Below A (hideAll h (fs.filterMap (·.frame))) fs h := ⟨fr.stack, fun b o e => of_hideAll _ e, fr.frames⟩
    exact leave_madeW (s' := mk s h' tk) B hx X'.fr (fun h'' t z1 _ _ z4 => thr _ _ _ ⟨⟨t, z1⟩, z4⟩) sc.kind
  · exact x
theorem x_raise {L : Addr} {h₀ : Heap} {own : Own} {nm : Str} {scope : Scope} {cd : Value} {T : List (Str × Value)} {K : List (Addr × Obj)} {cls newId initId : String} (FC : ExcCallFacts cls newId initId) (FR : ExcRaiseFacts cls) {x : Str} {np cpos pos p1 : Pos} {k1} {msg : Str} {rest : List Stmt} {Q : Flow → Shared → Prop}
    (X : Fx h₀ L h ns vs own) (W : Wd T K h₀) (sc : Sc scope ns) (g : Gs scope gs) (m : x ∈ gs) (t : (x, .type cls) ∈ T) (hh : A.handled = none)
    (q : ∀ h' tk e as, Heap.MadeExcOf h h' e (.type cls) as → E (.ref e) (mk s h' tk)) :
    wpAny (model prog w) A (execs (.Raise (some (.Call (.Name x np) [.Constant (.str msg) k1 p1] [] cpos)) none pos :: rest) (envOf nm scope L f cd)) Q E (mk s h tk) := by
  refine wpAny_execs_cons (Raise_madeB FC FR hh (r_glob X W sc g m t ⟨rfl, ?_⟩) (by with_unfolding_all rfl) (by with_unfolding_all rfl))
  have he : backTo cpos (starEach [.Constant (.str msg) k1 p1] (envOf nm scope L f cd)) = [(false, eval (.Constant (.str msg) k1 p1) (envOf nm scope L f cd))] := by with_unfolding_all rfl
  rw [he]
  exact spliced_cons (r_str fun t tk => spliced_nil ⟨by show (1 : Nat) ≤ 2 ^ 24; decide, fun h' e hx => q _ _ _ _ hx.of⟩)
end
end Mine
end
section
set_option linter.unusedVariables false
open PySem PySem.W PySem.Calls PyProof.Rows
namespace Mine
section
variable {hb h₁ h₀ h hc h' g : Heap} {L Ll : Addr} {ns : List Str} {vs : List (Option Value)} {own new : Own} {T : List (Str × Value)} {K : List (Addr × Obj)} {xs : List Int} {ws : List Value}
structure Am (T : List (Str × Value)) (K : List (Addr × Obj)) (hb : Heap) (Ll : Addr) (h₀ : Heap) : Prop where
  W : Wd T K h₀
  wg : Wg h₀
  tab : ∃ ps, h₀.IsCode 198 194 ps ∧ h₀.TableAt 198 194 ps
  old : OldK hb h₀
  tb : ∃ ps, hb.TableAt 198 194 ps
  no : hb.get? Ll = none
  fr : ∃ o es n, h₀.get? Ll = some o ∧ o.data = .dict es n
  nk : K.lookup Ll = none
  np : K.lookup 194 = none
theorem Am.grow {ps more : Array Value} (a : Am T K hb Ll h₀) (X : Fx h₀ L h ns vs own) (t : h₀.IsCode 198 194 ps ∧ h₀.TableAt 198 194 ps) (B' : Based h g 198 194 (ps ++ more)) (gn : Gain g h' new) : ∃ g₀, Am T K hb Ll g₀ ∧ Fx g₀ L h' ns vs (new ++ own) := by
  have B : Based h₀ h₀ 198 194 ps := Based.start t.1 t.2 (by decide)
  obtain ⟨g₀, B₀, X₀⟩ := X.regrow B B' gn
  obtain ⟨ps₀, tb⟩ := a.tb
  refine ⟨g₀, ⟨a.W.based B₀ a.np, a.wg.based B₀, ⟨_, B₀.code, B₀.tab⟩, a.old.step_table tb t.2 B₀.tab B₀.same.extBut (by decide), a.tb, a.no, ?_, a.nk, a.np⟩, X₀⟩
  obtain ⟨o, es, n, ho, hd⟩ := a.fr
  refine ⟨o, es, n, (B₀.same.2 Ll fun z => ?_).trans ho, hd⟩
  rw [z, t.2.2] at ho; cases ho; cases hd
theorem turn_ns {a : Addr} {m : Str → Option Value} (t : KtsTurn [Ll] h₀ g) (hn : h₀.Ns a m) : g.Ns a m := by
  obtain ⟨o, es, ep, ho, hd, r⟩ := hn
  obtain ⟨sl, hs⟩ := t.up ho
  exact ⟨_, es, ep, hs, hd, r⟩
theorem Am.turn (a : Am T K hb Ll h₀) (t : KtsTurn [Ll] h₀ g) : Am T K hb Ll g := by
  obtain ⟨oL, es, n, hL, hd⟩ := a.fr
  have kp : ∀ b o, b ≠ Ll → h₀.get? b = some o → g.get? b = some o := fun b o hb e => t.other b o e fun z => hb (List.mem_singleton.mp z)
  have nef : ∀ {b o v}, h₀.get? b = some o → o.data = .fields v → b ≠ Ll := fun e q z => by rw [z, hL] at e; cases e; rw [hd] at q; cases q
  refine ⟨⟨?_, ?_, fun b o e => ?_⟩, ?_, ?_, ?_, a.tb, a.no, ?_, a.nk, a.np⟩
  · obtain ⟨G, B, x, y, r⟩ := a.W.gl
    exact ⟨G, B, turn_ns t x, turn_ns t y, r⟩
  · obtain ⟨m, x, r⟩ := a.W.nl
    exact ⟨m, turn_ns t x, r⟩
  · exact kp b o (fun z => by rw [z, a.nk] at e; cases e) (a.W.kx b o e)
  · obtain ⟨mg, bm, ob, M⟩ := a.wg
    refine ⟨mg, bm, ob, ⟨turn_ns t M.ns, M.name, M.ne, kp _ _ (fun z => ?_) M.obj, M.cls, M.dict, M.data⟩⟩
    have := M.obj
    rw [z, hL] at this; cases this
    rw [M.data] at hd; cases hd
  · obtain ⟨ps, hc, ⟨o', vs', e1, e2, e3, e4⟩, ht2⟩ := a.tab
    obtain ⟨o, vs, file, tf, flags, tg, inF, text, tt, op, a1, r1, r2, r3, r4, r5, r6, b1, b2, r⟩ := hc
    exact ⟨ps, ⟨o, vs, file, tf, flags, tg, inF, text, tt, op, kp _ _ (nef a1 r1) a1, r1, r2, r3, r4, r5, r6, kp _ _ (nef b1 b2) b1, b2, r⟩, ⟨⟨o', vs', kp _ _ (nef e1 e3) e1, e2, e3, e4⟩, kp _ _ (nef ht2 rfl) ht2⟩⟩
  · have ne : ∀ {b o}, hb.get? b = some o → b ≠ Ll := fun e z => by rw [z, a.no] at e; cases e
    refine ⟨fun b o e => ?_, fun b o e => let ⟨o', ho'⟩ := a.old.there b o e; ⟨o', kp _ _ (ne e) ho'⟩⟩
    rcases a.old.old b o e with x | ⟨t', hc, vs, more, hv, x⟩ | ⟨rfl, hc, ⟨o', es, n, ho', r⟩, z⟩
    · exact .inl (kp _ _ (ne e) x)
    · exact .inr (.inl ⟨t', hc, vs, more, hv, kp _ _ (ne e) x⟩)
    · exact .inr (.inr ⟨rfl, hc, ⟨o', es, n, kp _ _ (ne e) ho', r⟩, fun key => by rw [OldK.staticOf_congr ((kp _ _ (ne e) ho').trans ho'.symm) key]; exact z key⟩)
  · obtain ⟨sl, hs⟩ := t.up hL
    exact ⟨_, es, n, hs, hd⟩
theorem Fx.turn (X : Fx h₀ L hc ns vs own) (fr : ∃ o es n, h₀.get? Ll = some o ∧ o.data = .dict es n) (st : (hideAll hc [L, Ll]).StaysIn h') (sm : hc.UpToSlots h') : ∃ g, KtsTurn [Ll] h₀ g ∧ Fx g L h' ns vs own := by
  obtain ⟨oL, es, n, hL, hd⟩ := fr
  have hL0 : ∀ {b o}, h₀.get? b = some o → b ≠ L := fun e z => absurd (Nat.lt_of_lt_of_le (Heap.lt_size (z ▸ e)) X.fr.above) (Nat.lt_irrefl _)
  have stay : ∀ b o, b ≠ L → b ≠ Ll → hc.get? b = some o → h'.get? b = some o := fun b o h1 h2 e => st b o (hideAll_get _ e fun z => by
    rcases List.mem_cons.mp z with z | z
    · exact h1 z
    · exact h2 (List.mem_singleton.mp z))
  obtain ⟨t, S⟩ := kts_turn_at (fs := [Ll]) (g := h₀) (h := h')
    (fun b hb => ⟨oL, by rw [List.mem_singleton.mp hb]; exact hL⟩)
    (fun b o e nm => stay b o (hL0 e) (fun z => nm (List.mem_singleton.mpr z)) (X.fr.keep b o e))
    (fun b o e hm => sm b o (X.fr.keep b o e) fun v q => by
      rw [List.mem_singleton.mp hm, hL] at e; cases e
      rw [hd] at q; cases q)
  refine ⟨_, t, ⟨⟨sm.ns X.fr.ns, S, by rw [t.size]; exact X.fr.above⟩, fun e he => ?_, fun e he => ⟨(X.off e he).1, t.none_ _ (X.off e he).2⟩, X.nd, X.len⟩⟩
  obtain ⟨o, ho, hp⟩ := X.has e he
  exact ⟨o, stay _ _ (X.off e he).1 (fun z => by have := (X.off e he).2; rw [z, hL] at this; cases this) ho, hp⟩
end
section
variable {prog : Program} {w : World} {A : Around} {E : Value → Shared → Prop} {s : Shared} {hb h₀ h : Heap} {tk : Nat} {L Ll f : Addr} {nm : Str} {scope : Scope} {cd : Value} {ns gs : List Str} {vs : List (Option Value)} {own : Own} {T : List (Str × Value)} {K : List (Addr × Obj)}
theorem frs_here {envl : Env} (X : Fx h₀ L h ns vs own) (fr : ∃ o es n, h₀.get? Ll = some o ∧ o.data = .dict es n) (hA : A.frames = some [envOf nm scope L f cd, envl]) (sc : Sc scope ns) (hk : envl.scope.kind ≠ .module) (hf : envl.frame = some Ll) : Frs A [envOf nm scope L f cd, envl] h := by
  obtain ⟨oL, es, n, hL, hd⟩ := fr
  obtain ⟨o, es', ep, ho, hd', _⟩ := X.fr.ns
  have e : [envOf nm scope L f cd, envl].filterMap (·.frame) = [L, Ll] := by simp [envOf, hf]
  refine ⟨hA, ?_⟩
  rw [e]
  refine ⟨by show scope.kind ≠ _; rw [sc.kind]; nofun, ⟨L, o, rfl, hideAll_none _ (.head _), ho, fun v q => by rw [hd'] at q; cases q⟩, hk, ⟨Ll, oL, hf, hideAll_none _ (.tail _ (.head _)), X.fr.keep _ _ hL, fun v q => by rw [hd] at q; cases q⟩, trivial⟩
theorem x_tryOk {env : Env} {body : List Stmt} {hd : ExceptHandler} {hs : List ExceptHandler} {pos : Pos} {rest : List Stmt} {Q : Flow → Shared → Prop} {s : Shared}
    (q : wpAny (model prog w) A (execs body env) (fun fl s₁ => fl = .next ∧ wpAny (model prog w) A (execs rest env) Q E s₁) E0 s) :
    wpAny (model prog w) A (execs (.Try body (hd :: hs) [] [] pos :: rest) env) Q E s := by
  refine wpAny_execs_cons (wpAny_Try_except (wpAny_mono q (fun fl s₁ h₁ => ?_) fun _ _ x => x.elim))
  obtain ⟨rfl, h₁⟩ := h₁
  exact wpAny_execs_nil h₁
theorem x_tryBad {envl : Env} {X : String} {x : Str} {np hpos pos : Pos} {body rest suite : List Stmt} {b₀ : Stmt} {Q : Flow → Shared → Prop}
    (hexc : isSubtype (.type X) (.type "BaseException") = pure true) (hnt : isSubtype (.type ((Manifest.find? X).elim "type" fun y => y.metatype)) (.type "tuple") = pure false) (hsub : isSubtype (.type X) (.type X) = pure true)
    (a : Am T K hb Ll h₀) (sc : Sc scope ns) (gg : Gs scope gs) (m : x ∈ gs) (tt : (x, .type X) ∈ T) (hA : A.frames = some [envOf nm scope L f cd, envl]) (hf : envl.frame = some Ll)
    (q : wpAny (model prog w) A (execs body (envOf nm scope L f cd)) (fun _ _ => False) (fun e s₁ => ∃ ea hc h' tk' vs' own', e = .ref ea ∧ s₁ = mk s h' tk' ∧ Fx h₀ L hc ns vs' own' ∧ Thrown X [envOf nm scope L f cd, envl] hc h' ea ∧
      ∀ g h'' tk'', Am T K hb Ll g → Fx g L h'' ns vs' own' → wpAny (model prog w) (A.mark (some (.ref ea))) (execs (b₀ :: suite) (envOf nm scope L f cd)) (fun fl s₂ => fl = .next ∧ wpAny (model prog w) A (execs rest (envOf nm scope L f cd)) Q E s₂) E0 (mk s h'' tk'')) (mk s h tk)) :
    wpAny (model prog w) A (execs (.Try body [.ExceptHandler (some (.Name x np)) none (b₀ :: suite) hpos] [] [] pos :: rest) (envOf nm scope L f cd)) Q E (mk s h tk) := by
  refine wpAny_execs_cons (wpAny_Try_except (wpAny_mono q (fun fl s₁ h₁ => h₁.elim) fun e s₁ h₁ => ?_))
  obtain ⟨ea, hc, h', tk', vs', own', rfl, rfl, X', ⟨⟨t, hfl⟩, hsm⟩, k⟩ := h₁
  have ee : [envOf nm scope L f cd, envl].filterMap (·.frame) = [L, Ll] := by simp [envOf, hf]
  refine wpAny_looks_onW (L := L) hA rfl hfl fun h₄ hheld₄ hsm₄ => ?_
  refine wpAny_landsW hheld₄ fun h₅ hheld hsm₅' => ?_
  have hsm₅ : hc.UpToSlots h₅ := hsm.trans (hsm₄.trans hsm₅')
  have st₅ := hheld.1
  rw [ee] at st₅
  obtain ⟨g₅, t₅, X₅⟩ := X'.turn a.fr st₅ hsm₅
  obtain ⟨ob, hob, hobc⟩ := hheld.there
  refine wpAny_handleBy_builtin (X := X) (T := X) (b := true) hexc hnt hsub (r_glob (s := s) (tk := tk') X₅ (a.turn t₅).W sc gg m tt ⟨rfl, ⟨ob, hob, hobc⟩, ?_⟩)
  refine lands_againW hheld fun h₆ hfl₆ hsm₆ => ?_
  have st₆ := hfl₆.1
  rw [ee] at st₆
  obtain ⟨g₆, t₆, X₆⟩ := X'.turn a.fr st₆ (hsm₅.trans hsm₆)
  refine wpAny_mono (k g₆ h₆ tk' (a.turn t₆) X₆) (fun fl s₂ h₂ => ?_) fun _ _ x => x.elim
  obtain ⟨rfl, h₂⟩ := h₂
  exact h₂
theorem enterF {name qual : Str} {params : Arguments} {body body' : List Stmt} {scope : Scope} {dV kV doc pm cdv ct oc : Value} {an od : Option Addr} {osl : Array (Option Value)} {args : List Value} {binds : List (Str × Value)} {Q : Value → Shared → Prop} {d : Nat} {outer : List Env}
    (W : Wd T K h) (ao : AOk A (d + 1)) (hA : A.frames = some outer) (ho : K.lookup f = some ⟨oc, od, .func (fnOf name qual params body scope dV kV doc pm an cdv ct), osl⟩) (hb : body = body') (hcd : codeIn K cdv qual = true)
    (hbind : bindArgs (fnOf name qual params body scope dV kV doc pm an cdv ct) ⟨args, []⟩ = pure binds) (hok : okScope scope ns gs = true) (en : Ent binds ns vs)
    (q : ∀ A' nm scope f cd L h₁ tk', A'.frames = some (envOf nm scope L f cd :: outer) → Fx h L h₁ ns vs [] → AOk A' d → Sc scope ns → Gs scope gs → wpAny (model prog w) A' (execs body' (envOf nm scope L f cd)) (RetQ Q) E0 (mk s h₁ tk')) :
    CallF prog w A f args Q E (mk s h tk) := by
  subst hb
  obtain ⟨sc, g, hcell, hgen, hco⟩ := okScope_of hok
  exact enter ao (W.kx _ _ ho) rfl (codeRec_of (K := K) W.kx hcd) W.nl (fun _ => rfl) rfl hbind hcell hgen hco sc en fun L h₁ tk' X a => q _ _ _ _ _ L h₁ tk' (Around.frames_deeper hA) X a sc g
end
section
variable {prog : Program} {w : World} {A : Around} {E : Value → Shared → Prop} {s : Shared} {h : Heap} {tk : Nat} {l : Addr} {xs : List Int}
/-- a list of ints, as it comes from outside -/
def IW (ns : List Int) (o : Obj) : Prop := ∃ vs n, IntsAre vs ns ∧ o.cls = .type "list" ∧ o.data = .seq vs.toArray n
theorem Has.isListW (x : Has h l (IW xs)) : ∃ vs, IntsAre vs xs ∧ h.IsList l vs.toArray := let ⟨o, e, vs, n, i, c, d⟩ := x; ⟨vs, i, o, e, c, n, d⟩
theorem r_lenW {Q : Value → Shared → Prop} (hl : Has h l (IW xs)) (hz : (xs.length : Int) < 2 ^ 62) (q : ∀ t tk', Q (.int xs.length t) (mk s h tk')) : wpAny (model prog w) A (call (.builtin "len") [.ref l]) Q E (mk s h tk) := by
  obtain ⟨vs, hi, hL⟩ := hl.isListW
  have e : (vs.toArray.size : Int) = xs.length := by simp [hi.length]
  refine call_len_list hL (by omega) ?_
  rw [e]; exact q _ _
theorem r_itemW {value slice : Expr} {k : Int} {u : Tok} {Q : Value → Shared → Prop} (hl : Has h l (IW xs)) (h0 : 0 ≤ k) (hk : k < xs.length) (hz : (xs.length : Int) < 2 ^ 62) (q : ∀ t, Q (.int (xs.getD k.toNat 0) t) (mk s h tk))
    (hs : subscripted slice false (.ref l) (.int k u) = operate [.ref l, .int k u] (getItem (.ref l) (.int k u)) := by with_unfolding_all rfl) :
    wpAny (model prog w) A (subscriptTail value slice (.ref l) (.int k u)) Q E (mk s h tk) := by
  obtain ⟨vs, hi, hL⟩ := hl.isListW
  have hlt : k.toNat < xs.length := by omega
  obtain ⟨t, ht⟩ := hi.get k.toNat (xs.getD k.toNat 0) (by simp [List.getD, hlt])
  exact tail_any (Heap.IsList.typeIs (s := mk s h tk) hL) slot_list_getitem.lookup (wpAny_getItem_list hL h0 (by omega) (by simpa using ht) (q t)) hs
end
end Mine
end
section
set_option linter.unusedVariables false
set_option maxRecDepth 100000
set_option maxHeartbeats 4000000
open PySem PySem.W PySem.Calls PyProof.Rows
namespace Mine
local macro_rules | `(tactic| k_clsL) => `(tactic| repeat (first | with_reducible exact Ent.nil | with_reducible apply Ent.cons | with_reducible apply Ent.skip))
local macro_rules | `(tactic| k_subL) => `(tactic| repeat (first | with_reducible exact Sel.nil | with_reducible refine Sel.cons (by repeat (first | with_reducible exact Pick.head | with_reducible apply Pick.tail)) ?_ | refine Sel.cons (by repeat (first | exact Pick.head | with_reducible apply Pick.tail)) ?_))
local macro_rules | `(tactic| got_up) => `(tactic| first | exact Fx.old (by assumption) (by assumption) | exact Fx.own_ (by assumption) (by repeat (first | with_reducible exact List.mem_cons_self | with_reducible apply List.mem_cons_of_mem)))
local macro_rules | `(tactic| leaf_len) => `(tactic| first
  | (with_reducible show wpAny _ _ (execs _ _) _ _ _; first
    | with_reducible refine x_ac ?_
    | with_reducible refine x_an ?_
    | with_reducible refine x_assign ?_
    | with_reducible refine x_ret ?_
    | with_reducible refine x_aug ?_
    | with_reducible refine x_if ?_
    | with_reducible refine x_setitem ?_
    | with_reducible refine x_for ?_
    | (with_reducible show wpAny _ _ (execs (Stmt.Expr _ _ :: _) _) _ _ _; first | with_reducible refine x_append (by assumption) (by assumption) (by repeat (first | with_reducible exact At.head | with_reducible apply At.tail)) (Has.lob (by got_up)) ?_ | with_reducible refine x_append (by assumption) (by assumption) (by repeat (first | with_reducible exact At.head | with_reducible apply At.tail)) (Has.slob (by got_up)) ?_))
  | (with_reducible show wpAny _ _ (eval (Expr.Name _ _) _) _ _ _; first
    | with_reducible refine r_name (by assumption) (by assumption) (by repeat (first | with_reducible exact At.head | with_reducible apply At.tail)) ?_
    | with_reducible refine r_glob (by assumption) (by assumption) (by assumption) (by assumption) (by repeat (first | with_reducible exact List.mem_cons_self | with_reducible apply List.mem_cons_of_mem)) (by repeat (first | with_reducible exact List.mem_cons_self | with_reducible apply List.mem_cons_of_mem)) ?_)
  | (with_reducible show wpAny _ _ (eval (Expr.Call (Expr.Name _ _) _ _ _) _) _ _ _; first
    | (with_reducible show wpAny _ _ (eval (Expr.Call (Expr.Name (Str.ofString "len") _) _ _ _) _) _ _ _; first | with_reducible refine rb1 (by assumption) (by assumption) (by assumption) (by assumption) (by repeat (first | with_reducible exact List.mem_cons_self | with_reducible apply List.mem_cons_of_mem)) (by repeat (first | with_reducible exact List.mem_cons_self | with_reducible apply List.mem_cons_of_mem)) ?_)
    | (with_reducible show wpAny _ _ (eval (Expr.Call (Expr.Name (Str.ofString "abs") _) _ _ _) _) _ _ _; first | with_reducible refine rb1 (by assumption) (by assumption) (by assumption) (by assumption) (by repeat (first | with_reducible exact List.mem_cons_self | with_reducible apply List.mem_cons_of_mem)) (by repeat (first | with_reducible exact List.mem_cons_self | with_reducible apply List.mem_cons_of_mem)) ?_)
    | (with_reducible show wpAny _ _ (eval (Expr.Call (Expr.Name (Str.ofString "all") _) _ _ _) _) _ _ _; first | with_reducible refine rb1 (by assumption) (by assumption) (by assumption) (by assumption) (by repeat (first | with_reducible exact List.mem_cons_self | with_reducible apply List.mem_cons_of_mem)) (by repeat (first | with_reducible exact List.mem_cons_self | with_reducible apply List.mem_cons_of_mem)) ?_)
    | (with_reducible show wpAny _ _ (eval (Expr.Call (Expr.Name (Str.ofString "max") _) _ _ _) _) _ _ _; first | with_reducible refine rb2 (by assumption) (by assumption) (by assumption) (by assumption) (by repeat (first | with_reducible exact List.mem_cons_self | with_reducible apply List.mem_cons_of_mem)) (by repeat (first | with_reducible exact List.mem_cons_self | with_reducible apply List.mem_cons_of_mem)) ?_)
    | (with_reducible show wpAny _ _ (eval (Expr.Call (Expr.Name (Str.ofString "range") _) _ _ _) _) _ _ _; first | with_reducible refine rt1 (by assumption) (by assumption) (by assumption) (by assumption) (by repeat (first | with_reducible exact List.mem_cons_self | with_reducible apply List.mem_cons_of_mem)) (by repeat (first | with_reducible exact List.mem_cons_self | with_reducible apply List.mem_cons_of_mem)) ?_ | with_reducible refine rt2 (by assumption) (by assumption) (by assumption) (by assumption) (by repeat (first | with_reducible exact List.mem_cons_self | with_reducible apply List.mem_cons_of_mem)) (by repeat (first | with_reducible exact List.mem_cons_self | with_reducible apply List.mem_cons_of_mem)) ?_ | with_reducible refine rt3 (by assumption) (by assumption) (by assumption) (by assumption) (by repeat (first | with_reducible exact List.mem_cons_self | with_reducible apply List.mem_cons_of_mem)) (by repeat (first | with_reducible exact List.mem_cons_self | with_reducible apply List.mem_cons_of_mem)) ?_)
    | (with_reducible show wpAny _ _ (eval (Expr.Call (Expr.Name (Str.ofString "str") _) _ _ _) _) _ _ _; first | with_reducible refine rt1 (by assumption) (by assumption) (by assumption) (by assumption) (by repeat (first | with_reducible exact List.mem_cons_self | with_reducible apply List.mem_cons_of_mem)) (by repeat (first | with_reducible exact List.mem_cons_self | with_reducible apply List.mem_cons_of_mem)) ?_)
    | (with_reducible show wpAny _ _ (eval (Expr.Call (Expr.Name (Str.ofString "type") _) _ _ _) _) _ _ _; first | with_reducible refine rt1 (by assumption) (by assumption) (by assumption) (by assumption) (by repeat (first | with_reducible exact List.mem_cons_self | with_reducible apply List.mem_cons_of_mem)) (by repeat (first | with_reducible exact List.mem_cons_self | with_reducible apply List.mem_cons_of_mem)) ?_)
    | with_reducible refine rc1 (by assumption) (by assumption) (by assumption) (by assumption) (by repeat (first | with_reducible exact List.mem_cons_self | with_reducible apply List.mem_cons_of_mem)) (by repeat (first | with_reducible exact List.mem_cons_self | with_reducible apply List.mem_cons_of_mem)) ?_
    | with_reducible refine rc2 (by assumption) (by assumption) (by assumption) (by assumption) (by repeat (first | with_reducible exact List.mem_cons_self | with_reducible apply List.mem_cons_of_mem)) (by repeat (first | with_reducible exact List.mem_cons_self | with_reducible apply List.mem_cons_of_mem)) ?_
    | with_reducible refine rc3 (by assumption) (by assumption) (by assumption) (by assumption) (by repeat (first | with_reducible exact List.mem_cons_self | with_reducible apply List.mem_cons_of_mem)) (by repeat (first | with_reducible exact List.mem_cons_self | with_reducible apply List.mem_cons_of_mem)) ?_
    | with_reducible refine rc4 (by assumption) (by assumption) (by assumption) (by assumption) (by repeat (first | with_reducible exact List.mem_cons_self | with_reducible apply List.mem_cons_of_mem)) (by repeat (first | with_reducible exact List.mem_cons_self | with_reducible apply List.mem_cons_of_mem)) ?_)
  | (with_reducible show wpAny _ _ (eval _ _) _ _ _; first
    | (with_reducible refine r_int ?_; intro _ _)
    | with_reducible refine wpAny_BinOp ?_
    | with_reducible refine r_subTo ?_
    | with_reducible refine r_subAll ?_
    | with_reducible refine Subscript_ ?_
    | with_reducible refine r_tuple2 ?_
    | with_reducible refine r_list0 ?_
    | with_reducible refine r_list1 ?_
    | with_reducible refine UnaryOp_ ?_
    | with_reducible refine IfExp_ ?_
    | (with_reducible refine r_str ?_; intro _ _)
    | with_reducible refine Constant_bool ?_
    | with_reducible refine Constant_none ?_
    | with_reducible refine wpAny_Compare1 ?_)
  | (with_reducible show wpAny _ _ (storeName _ _ _) _ _ _; first
    | (with_reducible refine r_store (by assumption) (by assumption) (by repeat (first | with_reducible exact Put.head | with_reducible apply Put.tail)) ?_; intro _ _ _))
  | (with_reducible show wpAny _ _ (loadName _ _) _ _ _; first
    | with_reducible refine r_load (by assumption) (by assumption) (by repeat (first | with_reducible exact At.head | with_reducible apply At.tail)) ?_)
  | (with_reducible show wpAny _ _ (binaryOp _ _ _) _ _ _; first
    | (with_reducible refine r_add ?_; intro _ _)
    | (with_reducible refine r_sub ?_; intro _ _)
    | (with_reducible refine r_mod (by first | omega | (simp; omega)) ?_; intro _ _)
    | (with_reducible refine r_div (by first | omega | (simp; omega)) (by first | omega | (simp; omega)) ?_; intro _ _))
  | (with_reducible show wpAny _ _ (inplaceOp _ _ _) _ _ _; first
    | (with_reducible refine r_iadd ?_; intro _ _)
    | (with_reducible refine r_isub ?_; intro _ _))
  | (with_reducible show wpAny _ _ (unaryOp _ _) _ _ _; first
    | (with_reducible refine r_neg ?_; intro _ _))
  | (with_reducible show wpAny _ _ (compareOp _ _ _) _ _ _; first
    | with_reducible refine r_gt ?_
    | with_reducible refine r_lt ?_
    | with_reducible refine r_le ?_
    | with_reducible refine r_ge ?_
    | with_reducible refine r_eq ?_
    | with_reducible refine r_ne ?_
    | with_reducible refine r_neS ?_
    | with_reducible refine r_isT ?_)
  | (with_reducible show wpAny _ _ (PySem.isTrue _ _ _) _ _ _; first
    | with_reducible refine wpAny_isTrue_Compare1 ?_
    | with_reducible refine isTrue_not ?_
    | with_reducible refine isTrue_and ?_
    | with_reducible refine isTrue_and_nil ?_
    | with_reducible refine isTrue_or ?_
    | with_reducible refine isTrue_or_nil ?_
    | with_reducible refine r_testCall ?_
    | with_reducible refine r_testName ?_)
  | (with_reducible show wpAny _ _ (truthy _) _ _ _; first
    | with_reducible refine r_truthB ?_)
  | (with_reducible show wpAny _ _ (newList _) _ _ _; first
    | (with_reducible refine r_new0 (by assumption) ?_; intro _ _ _)
    | (with_reducible refine r_new1 (by assumption) ?_; intro _ _ _)
    | (with_reducible refine r_newS (by assumption) ?_; intro _ _ _))
  | (with_reducible show wpAny _ _ (newTuple _) _ _ _; first
    | (with_reducible refine r_newtup (by simp) (by assumption) ?_; intro _ _ _))
  | with_reducible refine if_tt ?_
  | with_reducible refine if_ff ?_
  | with_reducible refine if_nt ?_
  | with_reducible refine if_nf ?_)
local macro_rules | `(tactic| none_booked) => `(tactic| first
  | (with_reducible show wpAny _ _ (call (Value.builtin "len") _) _ _ _; (with_reducible refine r_len (by got_up) (by first | omega | (simp; omega)) ?_; intro _ _))
  | (with_reducible show wpAny _ _ (subscriptTail _ _ _ _) _ _ _; first | (with_reducible refine r_itemN (by got_up) (by first | omega | (simp; omega)) (by first | omega | (simp; omega)) ?_; intro _) | (with_reducible refine r_item (by got_up) (by first | omega | (simp; omega)) (by first | omega | (simp; omega)) (by first | omega | (simp; omega)) ?_; intro _) | with_reducible refine r_tup (by got_up) (by decide) (by decide) (by with_unfolding_all rfl) ?_)
  | (with_reducible show wpAny _ _ (binaryOp Operator.Mult (Value.int _ _) (Value.int _ _)) _ _ _; (with_reducible refine r_mul (by first | exact IntMulOk.of_right (intBits_le_64 (by omega) (by omega)) | exact IntMulOk.of_left (intBits_le_64 (by omega) (by omega))) ?_; intro _ _))
  | (with_reducible show Cut _ _ _ _ _ _ _ _ _ _ _; (with_reducible refine r_cutAll (by assumption) (by got_up) (by first | omega | (simp; omega)) ?_; intro _ _ _))
  | (with_reducible show wpAny _ _ (call (Value.builtin "list.append") _) _ _ _; (with_reducible refine r_append (by assumption) (by repeat (first | with_reducible exact Rep.head | with_reducible apply Rep.tail)) (by first | omega | (simp; omega)) ?_; intro _ _))
  | (with_reducible show wpAny _ _ (call (Value.type "str") _) _ _ _; (with_reducible refine r_strI (by first | omega | (simp; omega)) ?_; intro _ _))
  | (with_reducible show wpAny _ _ (call (Value.type "type") _) _ _ _; first | with_reducible refine r_typeI ?_ | with_reducible refine r_typeT (by got_up) ?_)
  | (with_reducible show wpAny _ _ (binaryOp Operator.Pow (Value.int 2 _) (Value.int _ _)) _ _ _; (with_reducible refine r_pow2 (by first | omega | (simp; omega)) (by first | omega | (simp; omega)) ?_; intro _ _))
  | (with_reducible show wpAny _ _ (call (Value.builtin "abs") _) _ _ _; (with_reducible refine r_abs ?_; intro _ _))
  | (with_reducible show wpAny _ _ (binaryOp Operator.Add (Value.str _ _) (Value.str _ _)) _ _ _; (with_reducible refine r_addS (by first | omega | (simp; omega)) ?_; intro _ _))
  | leaf_len)
section
variable {prog : Program} {w : World} {A : Around} {E : Value → Shared → Prop} {s : Shared} {h : Heap} {tk d : Nat} {Q : Value → Shared → Prop}
theorem c_trimmed {l : Addr} {xs : List Int} (W : Wd T (KK w) h) (ao : AOk A (d + 1)) (ha : Has h l (IL xs)) (hz : xs.length ≤ 1000)
    (ret : ∀ r h' tk', Gain h h' [(r, IL (trim xs))] → Q (.ref r) (mk s h' tk')) : CallF prog w A 21 [.ref l] Q E (mk s h tk) := by
  refine enterK (binds := [("a", .ref l)]) (ns := ["a", "n"]) (gs := ["len"]) W ao rfl (by conv => lhs; whnf) (by kernel_rfl) (by kernel_rfl) (by kernel_rfl) (by k_clsL) ?_
  intro A nm scope f cd L h₁ tk X ao sc gs
  repeat leaf_len
  refine r_len (by got_up) (by omega) ?_
  intro t0 tk0
  leaf_len
  refine x_while (fun n vs own => ∃ k t, vs = [some (.ref l), some (.int k t)] ∧ own = [] ∧ n = k.toNat ∧ 0 ≤ k ∧ k ≤ xs.length ∧ trim xs = trim (xs.take k.toNat)) (by assumption) xs.length ⟨_, _, rfl, rfl, by simp, by omega, by omega, by simp⟩ ?_
  rintro n vs own h tk ⟨k, t, rfl, rfl, rfl, hk0, hk, ht⟩ X
  repeat leaf_len
  refine split_if (fun hc => ?_) (fun hc => ?_)
  · repeat leaf_len
    refine r_item (by got_up) (by omega) (by omega) (by omega) ?_
    intro t
    have e : xs.take k.toNat = xs.take (k - 1).toNat ++ [xs.getD (k - 1).toNat 0] := by
      rw [show k.toNat = (k - 1).toNat + 1 by omega]; exact take_last (by omega)
    repeat leaf_len
    refine split_if (fun hc2 => ?_) (fun hc2 => ?_)
    · repeat leaf_len
      refine x_nil (Turn.next0 (by assumption) ⟨_, ?_, _, _, rfl, rfl, rfl, by omega, by omega, ?_⟩ (by k_subL))
      · omega
      · rw [ht, e, hc2, trim_zero]
    · repeat leaf_len
      refine r_cutTo (by assumption) (by got_up) hk0 hk (by omega) ?_
      intro a h X
      have e2 : xs.take k.toNat = trim xs := by rw [ht, e, trim_last _ hc2]
      exact ret _ _ _ (e2 ▸ X.ret (by k_subL))
  · repeat leaf_len
    refine r_cutTo (by assumption) (by got_up) hk0 hk (by omega) ?_
    intro a h X
    have e2 : xs.take k.toNat = trim xs := by rw [ht, show k.toNat = 0 by omega]; rfl
    exact ret _ _ _ (e2 ▸ X.ret (by k_subL))
end
section
variable {prog : Program} {w : World} {A : Around} {E : Value → Shared → Prop} {s : Shared} {h : Heap} {tk d : Nat} {Q : Value → Shared → Prop}
theorem c_from_int {x : Int} {t : Tok} (W : Wd T (KK w) h) (ao : AOk A (d + 1)) (hx : 0 ≤ x) (hz : (lim x).length ≤ 1000)
    (ret : ∀ r h' tk', Gain h h' [(r, IL (lim x))] → Q (.ref r) (mk s h' tk')) : CallF prog w A 28 [.int x t] Q E (mk s h tk) := by
  refine enterK (binds := [("n", .int x t)]) (ns := ["n", "limbs"]) (gs := ["BASE"]) W ao rfl (by conv => lhs; whnf) (by kernel_rfl) (by kernel_rfl) (by kernel_rfl) (by k_clsL) ?_
  intro A nm scope f cd L h₁ tk X ao sc gs
  repeat none_booked
  refine x_while (fun n vs own => ∃ lb k t T, vs = [some (.int k t), some (.ref lb)] ∧ own = [(lb, IL T)] ∧ n = k.toNat ∧ 0 ≤ k ∧ T ++ lim k = lim x) (by assumption) x.toNat ⟨_, _, _, [], rfl, rfl, rfl, hx, rfl⟩ ?_
  rintro n vs own h tk ⟨lb, k, t, T, rfl, rfl, rfl, hk0, hT⟩ X
  have hl := len_le_of_append hT
  repeat none_booked
  refine split_if (fun hc => ?_) (fun hc => ?_)
  · repeat none_booked
    refine x_nil (Turn.next0 (by assumption) ⟨_, ?_, _, _, _, _, rfl, rfl, rfl, by omega, ?_⟩ (by k_subL))
    · omega
    · rw [← hT, lim_pos hc]; simp
  · repeat none_booked
    have e : T = lim x := by rw [← hT, show k = 0 by omega, lim_zero]; simp
    exact ret _ _ _ (e ▸ X.ret (by k_subL))

theorem c_compare {l₁ l₂ : Addr} {x y : Int} (W : Wd T (KK w) h) (ao : AOk A (d + 1)) (ha : Has h l₁ (IL (lim x))) (hb : Has h l₂ (IL (lim y))) (hx : 0 ≤ x) (hy : 0 ≤ y) (hz : (lim x).length ≤ 1000) (hz' : (lim y).length ≤ 1000)
    (ret : ∀ t h' tk', Gain h h' [] → Q (.int (cmpI x y) t) (mk s h' tk')) : CallF prog w A 35 [.ref l₁, .ref l₂] Q E (mk s h tk) := by
  refine enterK (binds := [("a", .ref l₁), ("b", .ref l₂)]) (ns := ["a", "b", "i"]) (gs := ["len", "range"]) W ao rfl (by conv => lhs; whnf) (by kernel_rfl) (by kernel_rfl) (by kernel_rfl) (by k_clsL) ?_
  intro A nm scope f cd L h₁ tk X ao sc gs
  repeat none_booked
  refine split_if (fun hc => ?_) (fun hc => ?_)
  · repeat none_booked
    refine split_if (fun hc2 => ?_) (fun hc2 => ?_)
    · have := lt_of_len hx hy (by omega)
      have e : cmpI x y = -1 := by simp [cmpI, this]
      repeat none_booked
      exact e ▸ ret _ _ _ (X.ret (by k_subL))
    · have := lt_of_len hy hx (by omega)
      have e : cmpI x y = 1 := by unfold cmpI; rw [if_neg (by omega), if_neg (by omega)]
      repeat none_booked
      exact e ▸ ret _ _ _ (X.ret (by k_subL))
  · have hl : (lim x).length = (lim y).length := by omega
    repeat none_booked
    refine r_rangeDown (k := 2) (by omega) (by omega) (by omega) (by omega) ao.handled sc rfl (fun i vs own => ∃ u, vs = [some (.ref l₁), some (.ref l₂), u] ∧ own = [] ∧ (lim x).drop ((lim x).length - i) = (lim y).drop ((lim x).length - i)) (by assumption) ⟨_, rfl, rfl, by simp [hl]⟩ ?_ ?_
    · rintro i t vs own h tk it hi ⟨u, rfl, rfl, hd⟩ X
      dsimp only [List.set] at X
      have hi' : i < (lim x).length := by omega
      have ei : (((lim x).length : Int) - 1 - i).toNat = (lim x).length - (i + 1) := by omega
      have ed : (lim x).length - i = (lim x).length - (i + 1) + 1 := by omega
      rw [ed] at hd
      repeat none_booked
      rw [ei]
      refine split_if (fun hc => ?_) (fun hc => ?_)
      · repeat none_booked
        rw [ei]
        refine split_if (fun hc2 => ?_) (fun hc2 => ?_)
        · have := lim_getD_lt hx hy hl (by omega) hd hc2
          have e : cmpI x y = -1 := by simp [cmpI, this]
          repeat none_booked
          exact e ▸ ret _ _ _ (X.ret (by k_subL))
        · have := lim_getD_lt hy hx hl.symm (by omega) hd.symm (by omega)
          have e : cmpI x y = 1 := by unfold cmpI; rw [if_neg (by omega), if_neg (by omega)]
          repeat none_booked
          exact e ▸ ret _ _ _ (X.ret (by k_subL))
      · exact x_nil (Turn.next1 X ⟨_, rfl, rfl, drop_step hl (by omega) hd (by simpa using hc)⟩ (by k_subL))
    · rintro vs own h tk ⟨u, rfl, rfl, hd⟩ X
      have e0 : (lim x).length - (((lim x).length : Int) - 1 - -1).toNat = 0 := by omega
      rw [e0] at hd
      have e1 : x = y := (lim_inj hx hy).mp (by simpa using hd)
      have e : cmpI x y = 0 := by unfold cmpI; rw [if_neg (by omega), if_pos e1]
      repeat none_booked
      exact e ▸ ret _ _ _ (X.ret (by k_subL))

theorem c_add {l₁ l₂ : Addr} {x y : Int} (W : Wd T (KK w) h) (ao : AOk A (d + 1)) (ha : Has h l₁ (IL (lim x))) (hb : Has h l₂ (IL (lim y))) (hx : 0 ≤ x) (hy : 0 ≤ y) (hz : (lim x).length ≤ 1000) (hz' : (lim y).length ≤ 1000)
    (ret : ∀ r h' tk', Gain h h' [(r, IL (lim (x + y)))] → Q (.ref r) (mk s h' tk')) : CallF prog w A 42 [.ref l₁, .ref l₂] Q E (mk s h tk) := by
  refine enterK (binds := [("a", .ref l₁), ("b", .ref l₂)]) (ns := ["a", "b", "total", "carry", "i", "t"]) (gs := ["len", "range", "max", "BASE"]) W ao rfl (by conv => lhs; whnf) (by kernel_rfl) (by kernel_rfl) (by kernel_rfl) (by k_clsL) ?_
  intro A nm scope f cd L h₁ tk X ao sc gs
  repeat none_booked
  refine r_max (by assumption) ao.handled ?_
  intro t h tk X
  have ox := ok_lim x hx
  have oy := ok_lim y hy
  refine r_range1 (k := 4) (by omega) (by omega) ao.handled sc rfl (fun i vs own => ∃ lt c tc u1 u2 T, vs = [some (.ref l₁), some (.ref l₂), some (.ref lt), some (.int c tc), u1, u2] ∧ own = [(lt, IL T)] ∧ T.length = i ∧ 0 ≤ c ∧ c ≤ 1 ∧ T ++ lim (val ((lim x).drop i) + val ((lim y).drop i) + c) = lim (x + y)) (by assumption) ⟨_, _, _, _, _, [], rfl, rfl, rfl, by omega, by omega, by simp [val_lim x hx, val_lim y hy]⟩ ?_ ?_
  · rintro i t vs own h tk it hi ⟨lt, c, tc, u1, u2, T, rfl, rfl, hl, h0, h1, hT⟩ X
    dsimp only [List.set] at X
    have g1 := getD_ok ox i
    have g2 := getD_ok oy i
    have n1 := val_nonneg (ok_drop ox i)
    have n2 := val_nonneg (ok_drop oy i)
    repeat none_booked
    refine split_if (fun hc => ?_) (fun hc => ?_)
    · have hA := val_drop (l := lim x) (k := i) (by omega)
      have hp := val_drop_pos hx (k := i) (by omega)
      repeat none_booked
      refine split_if (fun hc2 => ?_) (fun hc2 => ?_)
      · have hB := val_drop (l := lim y) (k := i) (by omega)
        repeat none_booked
        refine x_nil (Turn.next1 (by assumption) ⟨_, _, _, _, _, _, rfl, rfl, ?_, ?_, ?_, add_step hT hA hB (by omega)⟩ (by k_subL))
        · simp [hl]
        · omega
        · omega
      · have hB : val ((lim y).drop i) = 0 + 10000 * val ((lim y).drop (i + 1)) := by rw [val_drop_all (by omega), val_drop_all (by omega)]; rfl
        have := add_step hT hA hB (by omega)
        rw [Int.add_zero] at this
        repeat none_booked
        refine x_nil (Turn.next1 (by assumption) ⟨_, _, _, _, _, _, rfl, rfl, ?_, ?_, ?_, this⟩ (by k_subL))
        · simp [hl]
        · omega
        · omega
    · have hA : val ((lim x).drop i) = 0 + 10000 * val ((lim x).drop (i + 1)) := by rw [val_drop_all (by omega), val_drop_all (by omega)]; rfl
      repeat none_booked
      refine split_if (fun hc2 => ?_) (fun hc2 => ?_)
      · have hB := val_drop (l := lim y) (k := i) (by omega)
        have hp := val_drop_pos hy (k := i) (by omega)
        have := add_step hT hA hB (by omega)
        rw [Int.add_zero] at this
        repeat none_booked
        refine x_nil (Turn.next1 (by assumption) ⟨_, _, _, _, _, _, rfl, rfl, ?_, ?_, ?_, this⟩ (by k_subL))
        · simp [hl]
        · omega
        · omega
      · omega
  · rintro vs own h tk ⟨lt, c, tc, u1, u2, T, rfl, rfl, hl, h0, h1, hT⟩ X
    rw [val_drop_all (by omega), val_drop_all (by omega), Int.zero_add, Int.zero_add, lim_last h0 (by omega)] at hT
    repeat none_booked
    refine split_if (fun hc => ?_) (fun hc => ?_)
    · rw [if_pos hc] at hT
      repeat none_booked
      rename_i X
      exact ret _ _ _ (hT ▸ X.ret (by k_subL))
    · rw [if_neg hc, List.append_nil] at hT
      repeat none_booked
      exact ret _ _ _ (hT ▸ X.ret (by k_subL))
end
section
variable {prog : Program} {w : World} {A : Around} {E : Value → Shared → Prop} {s : Shared} {h : Heap} {tk d : Nat} {Q : Value → Shared → Prop}
theorem c_sub {l₁ l₂ : Addr} {x y : Int} (W : Wd T (KK w) h) (ao : AOk A (d + 2)) (ha : Has h l₁ (IL (lim x))) (hb : Has h l₂ (IL (lim y))) (hx : 0 ≤ x) (hy : 0 ≤ y) (hxy : y ≤ x) (hz : (lim x).length ≤ 1000)
    (ret : ∀ r h' tk', Gain h h' [(r, IL (lim (x - y)))] → Q (.ref r) (mk s h' tk')) : CallF prog w A 49 [.ref l₁, .ref l₂] Q E (mk s h tk) := by
  have hz' : (lim y).length ≤ 1000 := Nat.le_trans (len_mono x hx y hy hxy) hz
  have hly := len_mono x hx y hy hxy
  refine enterK (binds := [("a", .ref l₁), ("b", .ref l₂)]) (ns := ["a", "b", "rest", "borrow", "i", "t"]) (gs := ["compare", "len", "range", "BASE", "trimmed"]) W ao rfl (by conv => lhs; whnf) (by kernel_rfl) (by kernel_rfl) (by kernel_rfl) (by k_clsL) ?_
  intro A nm scope f cd L h₁ tk X ao sc gs
  repeat none_booked
  refine c_compare (W.keeps X.fr.keep) ao (by got_up) (by got_up) hx hy hz hz' ?_
  intro t h tk g
  have X := X.gain0 g
  have hc : ¬ cmpI x y < 0 := by unfold cmpI; split <;> (try split) <;> omega
  repeat none_booked
  refine split_if (fun hc' => absurd hc' hc) (fun _ => ?_)
  repeat none_booked
  have ox := ok_lim x hx
  have oy := ok_lim y hy
  refine r_range1 (k := 4) (by omega) (by omega) ao.handled sc rfl (fun i vs own => ∃ lt c tc u1 u2 T, vs = [some (.ref l₁), some (.ref l₂), some (.ref lt), some (.int c tc), u1, u2] ∧ own = [(lt, IL T)] ∧ T.length = i ∧ 0 ≤ c ∧ c ≤ 1 ∧ i ≤ (lim x).length ∧ T ++ dg ((lim x).length - i) (val ((lim x).drop i) - val ((lim y).drop i) - c) = dg (lim x).length (x - y)) (by assumption) ⟨_, _, _, _, _, [], rfl, rfl, rfl, by omega, by omega, by omega, by simp [val_lim x hx, val_lim y hy]⟩ ?_ ?_
  · rintro i t vs own h tk it hi ⟨lt, c, tc, u1, u2, T, rfl, rfl, hl, h0, h1, hn, hT⟩ X
    dsimp only [List.set] at X
    have g1 := getD_ok ox i
    have g2 := getD_ok oy i
    have hA := val_drop (l := lim x) (k := i) (by omega)
    rw [show (lim x).length - i = (lim x).length - (i + 1) + 1 by omega] at hT
    repeat none_booked
    refine split_if (fun hc => ?_) (fun hc => ?_)
    · have hB := val_drop (l := lim y) (k := i) (by omega)
      repeat none_booked
      refine split_if (fun hc2 => ?_) (fun hc2 => ?_)
      · repeat none_booked
        refine x_nil (Turn.next1 (by assumption) ⟨_, _, _, _, _, _, rfl, rfl, ?_, ?_, ?_, ?_, ?_⟩ (by k_subL))
        · simp [hl]
        · omega
        · omega
        · omega
        · exact sub_step hT hA hB (by omega) (by omega) (by omega)
      · repeat none_booked
        refine x_nil (Turn.next1 (by assumption) ⟨_, _, _, _, _, _, rfl, rfl, ?_, ?_, ?_, ?_, ?_⟩ (by k_subL))
        · simp [hl]
        · omega
        · omega
        · omega
        · exact sub_step hT hA hB (by omega) (by omega) (by omega)
    · have hB : val ((lim y).drop i) = 0 + 10000 * val ((lim y).drop (i + 1)) := by rw [val_drop_all (by omega), val_drop_all (by omega)]; rfl
      repeat none_booked
      refine split_if (fun hc2 => ?_) (fun hc2 => ?_)
      · repeat none_booked
        refine x_nil (Turn.next1 (by assumption) ⟨_, _, _, _, _, _, rfl, rfl, ?_, ?_, ?_, ?_, ?_⟩ (by k_subL))
        · simp [hl]
        · omega
        · omega
        · omega
        · exact sub_step hT hA hB (by omega) (by omega) (by omega)
      · repeat none_booked
        refine x_nil (Turn.next1 (by assumption) ⟨_, _, _, _, _, _, rfl, rfl, ?_, ?_, ?_, ?_, ?_⟩ (by k_subL))
        · simp [hl]
        · omega
        · omega
        · omega
        · exact sub_step hT hA hB (by omega) (by omega) (by omega)
  · rintro vs own h tk ⟨lt, c, tc, u1, u2, T, rfl, rfl, hl, h0, h1, hn, hT⟩ X
    rw [show (lim x).length - ((lim x).length : Int).toNat = 0 by omega, dg, List.append_nil] at hT
    repeat none_booked
    refine c_trimmed (W.keeps X.fr.keep) ao (by got_up) (by rw [hT, dg_len]; exact hz) ?_
    intro r h tk g
    have X := X.gain1 g
    rw [hT, sub_ok hx hy hxy] at X
    exact ret _ _ _ (X.ret (by k_subL))

theorem c_mul_small {l₁ : Addr} {x k : Int} {t : Tok} (W : Wd T (KK w) h) (ao : AOk A (d + 1)) (ha : Has h l₁ (IL (lim x))) (hx : 0 ≤ x) (hk : 0 ≤ k) (hk' : k < 10000) (hz : (lim x).length ≤ 1000)
    (ret : ∀ r h' tk', Gain h h' [(r, IL (lim (k * x)))] → Q (.ref r) (mk s h' tk')) : CallF prog w A 56 [.ref l₁, .int k t] Q E (mk s h tk) := by
  refine enterK (binds := [("a", .ref l₁), ("d", .int k t)]) (ns := ["a", "d", "product", "carry", "limb", "t"]) (gs := ["BASE"]) W ao rfl (by conv => lhs; whnf) (by kernel_rfl) (by kernel_rfl) (by kernel_rfl) (by k_clsL) ?_
  intro A nm scope f cd L h₁ tk X ao sc gs
  repeat none_booked
  refine split_if (fun hc => ?_) (fun hc => ?_)
  · repeat none_booked
    rename_i X
    refine ret _ _ _ ?_
    rw [hc, Int.zero_mul, lim_zero]
    exact X.ret (by k_subL)
  · repeat none_booked
    have ox := ok_lim x hx
    refine it_list (k := 4) ha ao.handled sc rfl (fun i vs own => ∃ lt c tc u1 u2 T, vs = [some (.ref l₁), some (.int k t), some (.ref lt), some (.int c tc), u1, u2] ∧ own = [(lt, IL T)] ∧ T.length = i ∧ 0 ≤ c ∧ c < 10000 ∧ T ++ lim (k * val ((lim x).drop i) + c) = lim (k * x)) (by assumption) ⟨_, _, _, _, _, [], rfl, rfl, rfl, by omega, by omega, by simp [val_lim x hx]⟩ ?_ ?_
    · rintro i t vs own h tk it hi ⟨lt, c, tc, u1, u2, T, rfl, rfl, hl, h0, h1, hT⟩ X
      dsimp only [List.set] at X
      have g1 := getD_ok ox i
      have hA := val_drop (l := lim x) (k := i) (by omega)
      have hp := val_drop_pos hx (k := i) (by omega)
      have hq : 0 < k * val ((lim x).drop i) := Int.mul_pos (by omega) hp
      have hm0 : 0 ≤ (lim x).getD i 0 * k := Int.mul_nonneg g1.1 hk
      have hm1 : (lim x).getD i 0 * k ≤ 9999 * 9999 := Int.mul_le_mul (by omega) (by omega) hk (by omega)
      repeat none_booked
      refine x_nil (Turn.next1 (by assumption) ⟨_, _, _, _, _, _, rfl, rfl, ?_, by omega, by omega, mul_step hT hA (by omega)⟩ (by k_subL))
      simp [hl]
    · rintro vs own h tk ⟨lt, c, tc, u1, u2, T, rfl, rfl, hl, h0, h1, hT⟩ X
      rw [val_drop_all (Nat.le_refl _), Int.mul_zero, Int.zero_add, lim_last h0 (by omega)] at hT
      repeat none_booked
      refine split_if (fun hc => ?_) (fun hc => ?_)
      · rw [if_pos hc] at hT
        repeat none_booked
        rename_i X
        exact ret _ _ _ (hT ▸ X.ret (by k_subL))
      · rw [if_neg hc, List.append_nil] at hT
        repeat none_booked
        exact ret _ _ _ (hT ▸ X.ret (by k_subL))
end
section
variable {prog : Program} {w : World} {A : Around} {E : Value → Shared → Prop} {s : Shared} {h : Heap} {tk d : Nat} {Q : Value → Shared → Prop}
theorem c_mul_school {l₁ l₂ : Addr} {x y : Int} (W : Wd T (KK w) h) (ao : AOk A (d + 2)) (ha : Has h l₁ (IL (lim x))) (hb : Has h l₂ (IL (lim y))) (hx : 0 ≤ x) (hy : 0 ≤ y) (hz : (lim x).length ≤ 400) (hz' : (lim y).length ≤ 400)
    (ret : ∀ r h' tk', Gain h h' [(r, IL (lim (x * y)))] → Q (.ref r) (mk s h' tk')) : CallF prog w A 63 [.ref l₁, .ref l₂] Q E (mk s h tk) := by
  refine enterK (binds := [("a", .ref l₁), ("b", .ref l₂)]) (ns := ["a", "b", "row", "i", "carry", "j", "t"]) (gs := ["len", "range", "BASE", "trimmed"]) W ao rfl (by conv => lhs; whnf) (by kernel_rfl) (by kernel_rfl) (by kernel_rfl) (by k_clsL) ?_
  intro A nm scope f cd L h₁ tk X ao sc gs
  repeat none_booked
  refine r_rep (by assumption) (by got_up) (by omega) (by omega) ?_
  intro lr h X
  repeat none_booked
  rename Fx _ _ _ _ _ _ => X
  have X := X.sub (own' := [(lr, IL (List.replicate (((lim x).length : Int) + (lim y).length).toNat 0))]) (by k_subL)
  have ox := ok_lim x hx
  have oy := ok_lim y hy
  refine r_range1 (k := 3) (by omega) (by omega) ao.handled sc rfl (fun i vs own => ∃ u1 u2 u3 u4 R P V, vs = [some (.ref l₁), some (.ref l₂), some (.ref lr), u1, u2, u3, u4] ∧ own = [(lr, IL R)] ∧ R = P ++ (V ++ List.replicate ((lim x).length - i) 0) ∧ P.length = i ∧ V.length = (lim y).length ∧ Ok V ∧ i ≤ (lim x).length ∧ P ++ dg ((lim x).length + (lim y).length - i) (val V + val ((lim x).drop i) * y) = dg ((lim x).length + (lim y).length) (x * y)) X ⟨_, _, _, _, _, [], List.replicate (lim y).length 0, rfl, rfl, ?_, rfl, by simp, ?_, by omega, ?_⟩ ?_ ?_
  · rw [List.nil_append, List.replicate_append_replicate]; congr 1; omega
  · intro z hz; have := List.eq_of_mem_replicate hz; omega
  · have : val (List.replicate (lim y).length 0) = 0 := by
      generalize (lim y).length = n
      induction n with
      | zero => rfl
      | succ n ih => rw [List.replicate_succ, val, ih]; rfl
    rw [this]; simp [val_lim x hx]
  · rintro i t vs own h tk it hi ⟨u1, u2, u3, u4, R, P, V, rfl, rfl, rfl, hP, hV, oV, hn, hE⟩ X
    dsimp only [List.set] at X
    have hi' : i < (lim x).length := by omega
    have g1 := getD_ok ox i
    have hA := val_drop (l := lim x) (k := i) hi'
    repeat none_booked
    refine r_range1 (k := 5) (by omega) (by omega) ao.handled sc rfl (fun j vs own => ∃ c tc u3 u4 R U, vs = [some (.ref l₁), some (.ref l₂), some (.ref lr), some (.int i t), some (.int c tc), u3, u4] ∧ own = [it, (lr, IL R)] ∧ R = (P ++ U) ++ (V.drop j ++ List.replicate ((lim x).length - i) 0) ∧ U.length = j ∧ j ≤ (lim y).length ∧ 0 ≤ c ∧ c < 10000 ∧ U ++ dg ((lim y).length + 1 - j) (val (V.drop j) + (lim x).getD i 0 * val ((lim y).drop j) + c) = dg ((lim y).length + 1) (val V + (lim x).getD i 0 * y)) (by assumption) ⟨_, _, _, _, _, [], rfl, rfl, by simp, rfl, by omega, by omega, by omega, by simp [val_lim y hy]⟩ ?_ ?_
    · rintro j t vs own h tk it' hj ⟨c, tc, u3, u4, R, U, rfl, rfl, rfl, hU, hjl, h0, h1, hT⟩ X
      dsimp only [List.set] at X
      have hj' : j < (lim y).length := by omega
      have g2 := getD_ok oy j
      have g3 := getD_ok oV j
      have hB := val_drop (l := lim y) (k := j) hj'
      have hW := val_drop (l := V) (k := j) (by omega)
      have hm0 : 0 ≤ (lim x).getD i 0 * (lim y).getD j 0 := Int.mul_nonneg g1.1 g2.1
      have hm1 : (lim x).getD i 0 * (lim y).getD j 0 ≤ 9999 * 9999 := Int.mul_le_mul (by omega) (by omega) g2.1 (by omega)
      have eV : V.drop j ++ List.replicate ((lim x).length - i) 0 = V.getD j 0 :: (V.drop (j + 1) ++ List.replicate ((lim x).length - i) 0) := by rw [drop_cons (by omega)]; rfl
      rw [eV] at X
      have ek : ((i : Int) + (j : Int)).toNat = (P ++ U).length := by rw [List.length_append]; omega
      rw [show (lim y).length + 1 - j = (lim y).length + 1 - (j + 1) + 1 by omega] at hT
      repeat leaf_len
      refine r_item (by got_up) (by omega) (by simp only [List.length_append, List.length_cons]; omega) (by simp only [List.length_append, List.length_cons, List.length_drop, List.length_replicate]; omega) ?_
      intro _
      rw [ek, get_mid _ _ _ _ rfl]
      repeat none_booked
      refine r_setitem (by assumption) (by repeat (first | with_reducible exact Rep.head | with_reducible apply Rep.tail)) (by omega) (by simp only [List.length_append, List.length_cons]; omega) (by simp only [List.length_append, List.length_cons, List.length_drop, List.length_replicate]; omega) ?_
      intro h X
      rw [ek, set_mid _ _ _ _ _ rfl] at X
      repeat none_booked
      refine x_nil (Turn.next1 (by assumption) ⟨_, _, _, _, _, U ++ [(V.getD j 0 + (lim x).getD i 0 * (lim y).getD j 0 + c) % 10000], rfl, rfl, ?_, by simp [hU], by omega, by omega, by omega, mulin_step hT hW hB⟩ (by k_subL))
      simp
    · rintro vs own h tk ⟨c, tc, u3, u4, R, U, rfl, rfl, rfl, hU, hjl, h0, h1, hT⟩ X
      have eL : ((lim y).length : Int).toNat = (lim y).length := by omega
      rw [eL] at hU hT X
      rw [show (lim y).length + 1 - (lim y).length = 1 by omega, val_drop_all (l := V) (by omega), val_drop_all (l := lim y) (by omega), Int.mul_zero] at hT
      have e1 : dg 1 (0 + 0 + c) = [c] := by simp only [dg]; congr 1; omega
      rw [e1] at hT
      have eZ : V.drop (lim y).length ++ List.replicate ((lim x).length - i) 0 = 0 :: List.replicate ((lim x).length - (i + 1)) 0 := by
        rw [List.drop_eq_nil_of_le (by omega), List.nil_append, show (lim x).length - i = (lim x).length - (i + 1) + 1 by omega, List.replicate_succ]
      rw [eZ] at X
      have ek : ((i : Int) + ((lim y).length : Int)).toNat = (P ++ U).length := by rw [List.length_append]; omega
      repeat none_booked
      refine r_setitem (by assumption) (by repeat (first | with_reducible exact Rep.head | with_reducible apply Rep.tail)) (by omega) (by simp only [List.length_append, List.length_cons]; omega) (by simp only [List.length_append, List.length_cons, List.length_replicate]; omega) ?_
      intro h X
      rw [ek, set_mid _ _ _ _ _ rfl] at X
      have hyy := lt_pow_len hy
      have hVV := val_lt_pow oV
      rw [hV] at hVV
      have hnV := val_nonneg oV
      have hay0 : 0 ≤ (lim x).getD i 0 * y := Int.mul_nonneg g1.1 hy
      have hay : (lim x).getD i 0 * y ≤ 9999 * 10000 ^ (lim y).length := Int.mul_le_mul (by omega) (by omega) hy (by omega)
      have hVp : val V + (lim x).getD i 0 * y < 10000 ^ ((lim y).length + 1) := by
        rw [Int.pow_succ]
        generalize (10000 : Int) ^ (lim y).length = p at *
        omega
      rw [show (lim x).length + (lim y).length - i = (lim x).length + (lim y).length - (i + 1) + 1 by omega] at hE
      have hS := mulout_step hE hA rfl (by omega) hVp
      have eR : P ++ U ++ c :: List.replicate ((lim x).length - (i + 1)) 0 = (P ++ [(val V + (lim x).getD i 0 * y) % 10000]) ++ (dg (lim y).length ((val V + (lim x).getD i 0 * y) / 10000) ++ List.replicate ((lim x).length - (i + 1)) 0) := by
        have : U ++ c :: List.replicate ((lim x).length - (i + 1)) 0 = (U ++ [c]) ++ List.replicate ((lim x).length - (i + 1)) 0 := by simp
        rw [List.append_assoc, this, hT, dg]
        simp
      exact x_nil (Turn.next1 X ⟨_, _, _, _, _, _, dg (lim y).length ((val V + (lim x).getD i 0 * y) / 10000), rfl, rfl, eR, by simp [hP], dg_len _ _, dg_ok _ _, by omega, hS⟩ (by k_subL))
  · rintro vs own h tk ⟨u1, u2, u3, u4, R, P, V, rfl, rfl, rfl, hP, hV, oV, hn, hE⟩ X
    have eL : ((lim x).length : Int).toNat = (lim x).length := by omega
    rw [eL] at hE X hP
    rw [val_drop_all (Nat.le_refl _), Int.zero_mul, Int.add_zero, show (lim x).length + (lim y).length - (lim x).length = V.length by omega, dg_val oV] at hE
    have eR : P ++ (V ++ List.replicate ((lim x).length - (lim x).length) 0) = dg ((lim x).length + (lim y).length) (x * y) := by rw [← hE]; simp
    rw [eR] at X
    repeat none_booked
    refine c_trimmed (W.keeps X.fr.keep) ao (by got_up) (by rw [dg_len]; omega) ?_
    intro r h tk g
    have X := X.gain1 g
    rw [trim_ok (dg_ok _ _), dg_lim _ _ (Int.mul_nonneg hx hy) (len_mul hx hy)] at X
    exact ret _ _ _ (X.ret (by k_subL))

theorem c_trial {l₁ l₂ : Addr} {x y : Int} (W : Wd T (KK w) h) (ao : AOk A (d + 2)) (ha : Has h l₁ (IL (lim x))) (hb : Has h l₂ (IL (lim y))) (hx : 0 ≤ x) (hy : 0 < y) (hxy : x < 10000 * y) (hz : (lim x).length ≤ 400) (hz' : (lim y).length ≤ 400)
    (ret : ∀ t h' tk', Gain h h' [] → Q (.int (x / y) t) (mk s h' tk')) : CallF prog w A 70 [.ref l₁, .ref l₂] Q E (mk s h tk) := by
  refine enterK (binds := [("rem", .ref l₁), ("b", .ref l₂)]) (ns := ["rem", "b", "low", "high", "mid"]) (gs := ["BASE", "compare", "mul_small"]) W ao rfl (by conv => lhs; whnf) (by kernel_rfl) (by kernel_rfl) (by kernel_rfl) (by k_clsL) ?_
  intro A nm scope f cd L h₁ tk X ao sc gs
  have hq0 : 0 ≤ x / y := Int.ediv_nonneg hx (by omega)
  have hq1 : x / y < 10000 := Int.ediv_lt_of_lt_mul hy hxy
  repeat none_booked
  refine x_while (fun n vs own => ∃ lo hi t1 t2 u, vs = [some (.ref l₁), some (.ref l₂), some (.int lo t1), some (.int hi t2), u] ∧ own = [] ∧ n = (hi - lo).toNat ∧ 0 ≤ lo ∧ lo ≤ x / y ∧ x / y ≤ hi ∧ hi < 10000) (by assumption) 9999 ⟨_, _, _, _, _, rfl, rfl, rfl, by omega, by omega, by omega, by omega⟩ ?_
  rintro n vs own h tk ⟨lo, hi, t1, t2, u, rfl, rfl, rfl, h0, h1, h2, h3⟩ X
  repeat none_booked
  refine split_if (fun hc => ?_) (fun hc => ?_)
  · repeat none_booked
    rename Fx _ _ _ _ _ _ => X
    have hmid : 0 ≤ (lo + hi + 1) / 2 ∧ (lo + hi + 1) / 2 < 10000 := by omega
    have hl := len_digit (k := (lo + hi + 1) / 2) (y := y) hmid.1 hmid.2 (by omega)
    have hn : 0 ≤ (lo + hi + 1) / 2 * y := Int.mul_nonneg hmid.1 (by omega)
    refine c_mul_small (W.keeps X.fr.keep) ao (by got_up) (by omega) hmid.1 hmid.2 (by omega) ?_
    intro r h tk g
    have X := X.gain1 g
    repeat none_booked
    refine c_compare (W.keeps X.fr.keep) ao (by got_up) (by got_up) hn hx (by omega) (by omega) ?_
    intro t h tk g
    have X := X.gain0 g
    have hcmp : cmpI ((lo + hi + 1) / 2 * y) x ≤ 0 ↔ (lo + hi + 1) / 2 ≤ x / y := by
      rw [Int.le_ediv_iff_mul_le hy]
      unfold cmpI; split <;> (try split) <;> omega
    repeat none_booked
    refine split_if (fun hc2 => ?_) (fun hc2 => ?_)
    · rw [hcmp] at hc2
      repeat none_booked
      refine x_nil (Turn.next0 (by assumption) ⟨_, ?_, _, _, _, _, _, rfl, rfl, rfl, by omega, by omega, by omega, by omega⟩ (by k_subL))
      omega
    · rw [hcmp] at hc2
      repeat none_booked
      refine x_nil (Turn.next0 (by assumption) ⟨_, ?_, _, _, _, _, _, rfl, rfl, rfl, by omega, by omega, by omega, by omega⟩ (by k_subL))
      omega
  · repeat none_booked
    have e : lo = x / y := by omega
    exact e ▸ ret _ _ _ (X.ret (by k_subL))

theorem c_divmod {l₁ l₂ : Addr} {x y : Int} (W : Wd T (KK w) h) (ao : AOk A (d + 3)) (ha : Has h l₁ (IL (lim x))) (hb : Has h l₂ (IL (lim y))) (hx : 0 ≤ x) (hy : 0 < y) (hz : (lim x).length ≤ 300) (hz' : (lim y).length ≤ 300)
    (ret : ∀ p lq lr h' tk', Gain h h' [(p, TV [.ref lq, .ref lr]), (lq, IL (lim (x / y))), (lr, IL (lim (x % y)))] → Q (.ref p) (mk s h' tk')) : CallF prog w A 77 [.ref l₁, .ref l₂] Q E (mk s h tk) := by
  refine enterK (binds := [("a", .ref l₁), ("b", .ref l₂)]) (ns := ["a", "b", "q", "r", "i", "d"]) (gs := ["len", "range", "trimmed", "trial_digit", "sub", "mul_small"]) W ao rfl (by conv => lhs; whnf) (by kernel_rfl) (by kernel_rfl) (by kernel_rfl) (by k_clsL) ?_
  intro A nm scope f cd L h₁ tk X ao sc gs
  have hly := len_lim_pos hy
  repeat none_booked
  refine split_if (fun hc => by omega) (fun hc => ?_)
  repeat none_booked
  refine r_rep (by assumption) (by got_up) (by omega) (by omega) ?_
  intro lq h X
  have eL : ((lim x).length : Int).toNat = (lim x).length := by omega
  rw [eL] at X
  repeat none_booked
  rename Fx _ _ _ _ _ _ => X
  have ox := ok_lim x hx
  refine r_rangeDown (k := 4) (by omega) (by omega) (by omega) (by omega) ao.handled sc rfl (fun i vs own => ∃ lr u1 u2 Z V, vs = [some (.ref l₁), some (.ref l₂), some (.ref lq), some (.ref lr), u1, u2] ∧ own = [(lr, IL (lim (val ((lim x).drop ((lim x).length - i)) % y))), (lq, IL (Z ++ V))] ∧ Z = List.replicate ((lim x).length - i) 0 ∧ Ok V ∧ V.length = i ∧ i ≤ (lim x).length ∧ val V = val ((lim x).drop ((lim x).length - i)) / y) (X.sub ?_) ⟨_, _, _, _, [], rfl, rfl, rfl, ok_nil, rfl, Nat.zero_le _, ?_⟩ ?_ ?_
  · have e : val ((lim x).drop ((lim x).length - 0)) = 0 := val_drop_all (by omega)
    rw [e, Int.zero_emod, lim_zero, List.append_nil, Nat.sub_zero]
    k_subL
  · rw [val_drop_all (by omega), Int.zero_ediv]; rfl
  · rintro i t vs own h tk it hi ⟨lr, u1, u2, Z, V, rfl, rfl, rfl, oV, hV, hn, hvV⟩ X
    dsimp only [List.set] at X
    have hi' : i < (lim x).length := by omega
    have ek : (((lim x).length : Int) - 1 - i).toNat = (lim x).length - (i + 1) := by omega
    have hd := val_drop (l := lim x) (k := (lim x).length - (i + 1)) (by omega)
    rw [show (lim x).length - (i + 1) + 1 = (lim x).length - i by omega] at hd
    have g1 := getD_ok ox ((lim x).length - (i + 1))
    have nn := val_nonneg (ok_drop ox ((lim x).length - i))
    generalize val ((lim x).drop ((lim x).length - i)) = H at *
    have hr0 : 0 ≤ H % y := Int.emod_nonneg _ (by omega)
    have hr1 : H % y < y := Int.emod_lt_of_pos _ hy
    have hq0 : 0 ≤ H / y := Int.ediv_nonneg nn (by omega)
    have hHe : H = y * (H / y) + H % y := (Int.mul_ediv_add_emod H y).symm
    have hlr : (lim (H % y)).length ≤ 300 := Nat.le_trans (len_mono y (by omega) _ hr0 (by omega)) hz'
    have eZ : List.replicate ((lim x).length - i) 0 ++ V = List.replicate ((lim x).length - (i + 1)) 0 ++ ((0 : Int) :: V) := by
      rw [show (lim x).length - i = (lim x).length - (i + 1) + 1 by omega, List.replicate_succ', List.append_assoc]; rfl
    rw [eZ] at X
    repeat none_booked
    rename Fx _ _ _ _ _ _ => X
    rw [ek] at X
    refine r_cat (by assumption) (by got_up) (by got_up) (by simp only [List.length_cons, List.length_nil]; omega) ?_
    intro lc h X
    have okc : Ok ([(lim x).getD ((lim x).length - (i + 1)) 0] ++ lim (H % y)) := ok_cons.mpr ⟨g1, ok_lim _ hr0⟩
    refine c_trimmed (W.keeps X.fr.keep) ao (by got_up) (by simp only [List.length_append, List.length_cons, List.length_nil]; omega) ?_
    intro lt h tk g
    have X := X.gain1 g
    rw [trim_ok okc] at X
    have evc : val ([(lim x).getD ((lim x).length - (i + 1)) 0] ++ lim (H % y)) = (lim x).getD ((lim x).length - (i + 1)) 0 + 10000 * (H % y) := by
      rw [List.singleton_append, val, val_lim _ hr0]
    rw [evc] at X
    generalize (lim x).getD ((lim x).length - (i + 1)) 0 = ai at *
    have hlc : (lim (ai + 10000 * (H % y))).length ≤ 400 := by
      have h1 := len_mono (10000 * y) (by omega) (ai + 10000 * (H % y)) (by omega) (by omega)
      have h2 := len_mul (x := 10000) (y := y) (by omega) (by omega)
      have h3 : (lim 10000).length ≤ 2 := len_le_of_lt 2 10000 (by decide) (by decide)
      omega
    repeat none_booked
    rename Fx _ _ _ _ _ _ => X
    refine c_trial (W.keeps X.fr.keep) ao (by got_up) (by got_up) (by omega) hy (by omega) hlc (by omega) ?_
    intro t h tk g
    have X := X.gain0 g
    have hd0 : 0 ≤ (ai + 10000 * (H % y)) / y := Int.ediv_nonneg (by omega) (by omega)
    have hd1 : (ai + 10000 * (H % y)) / y < 10000 := Int.ediv_lt_of_lt_mul hy (by omega)
    have hde : ai + 10000 * (H % y) = y * ((ai + 10000 * (H % y)) / y) + (ai + 10000 * (H % y)) % y := (Int.mul_ediv_add_emod _ y).symm
    repeat none_booked
    rename Fx _ _ _ _ _ _ => X
    refine r_setitem X (by repeat (first | with_reducible exact Rep.head | with_reducible apply Rep.tail)) (by omega) (by simp only [List.length_append, List.length_cons, List.length_replicate]; omega) (by simp only [List.length_append, List.length_cons, List.length_replicate]; omega) ?_
    intro h X
    rw [ek, set_mid _ _ _ _ _ (by simp)] at X
    repeat none_booked
    refine c_mul_small (W.keeps X.fr.keep) ao (by got_up) (by omega) hd0 hd1 (by omega) ?_
    intro lm h tk g
    have X := X.gain1 g
    have hmn : 0 ≤ (ai + 10000 * (H % y)) / y * y := Int.mul_nonneg hd0 (by omega)
    have hmle : (ai + 10000 * (H % y)) / y * y ≤ ai + 10000 * (H % y) := Int.ediv_mul_le _ (by omega)
    refine c_sub (W.keeps X.fr.keep) ao (by got_up) (by got_up) (by omega) hmn hmle (by omega) ?_
    intro ls h tk g
    have X := X.gain1 g
    have emod : ai + 10000 * (H % y) - (ai + 10000 * (H % y)) / y * y = (ai + 10000 * (H % y)) % y := by
      have := Int.mul_comm ((ai + 10000 * (H % y)) / y) y
      omega
    rw [emod] at X
    have eH : (ai + 10000 * H) % y = (ai + 10000 * (H % y)) % y := by
      rw [Int.add_emod, Int.mul_emod, Int.add_emod ai (10000 * (H % y)), Int.mul_emod 10000 (H % y), Int.emod_emod]
    have eD : (ai + 10000 * H) / y = 10000 * (H / y) + (ai + 10000 * (H % y)) / y := by
      have : ai + 10000 * H = (ai + 10000 * (H % y)) + 10000 * (H / y) * y := by
        have m1 : 10000 * (H / y) * y = 10000 * (y * (H / y)) := by rw [Int.mul_assoc, Int.mul_comm (H / y) y]
        omega
      rw [this, Int.add_mul_ediv_right _ _ (by omega)]; omega
    rw [← eH, ← hd] at X
    repeat none_booked
    rename Fx _ _ _ _ _ _ => X
    refine x_nil (Turn.next1 X ⟨_, _, _, _, _, rfl, rfl, rfl, ok_cons.mpr ⟨⟨hd0, hd1⟩, oV⟩, by simp [hV], by omega, ?_⟩ (by k_subL))
    rw [val, hvV, hd, eD]; omega
  · rintro vs own h tk ⟨lr, u1, u2, Z, V, rfl, rfl, rfl, oV, hV, hn, hvV⟩ X
    have e0 : (lim x).length - (((lim x).length : Int) - 1 - -1).toNat = 0 := by omega
    rw [e0, List.drop_zero, val_lim x hx] at hvV X
    rw [List.replicate_zero, List.nil_append] at X
    repeat none_booked
    refine c_trimmed (W.keeps X.fr.keep) ao (by got_up) (by omega) ?_
    intro lt h tk g
    have X := X.gain1 g
    rw [trim_ok oV, hvV] at X
    repeat none_booked
    rename Fx _ _ _ _ _ _ => X
    exact ret _ _ _ _ _ (X.ret (by k_subL))
end
section
variable {prog : Program} {w : World} {A : Around} {E : Value → Shared → Prop} {s : Shared} {h : Heap} {tk d : Nat} {Q : Value → Shared → Prop}
theorem c_gcd {l₁ l₂ : Addr} {x y : Int} (W : Wd T (KK w) h) (ao : AOk A (d + 4)) (ha : Has h l₁ (IL (lim x))) (hb : Has h l₂ (IL (lim y))) (hx : 0 ≤ x) (hy : 0 ≤ y) (hz : (lim x).length ≤ 300) (hz' : (lim y).length ≤ 300)
    (ret : ∀ r h' tk', Gain h h' [(r, IL (lim (Int.gcd x y)))] → Q (.ref r) (mk s h' tk')) : CallF prog w A 98 [.ref l₁, .ref l₂] Q E (mk s h tk) := by
  refine enterK (binds := [("a", .ref l₁), ("b", .ref l₂)]) (ns := ["a", "b", "x", "y", "r"]) (gs := ["len", "divmod_long"]) W ao rfl (by conv => lhs; whnf) (by kernel_rfl) (by kernel_rfl) (by kernel_rfl) (by k_clsL) ?_
  intro A nm scope f cd L h₁ tk X ao sc gs
  repeat none_booked
  rename Fx _ _ _ _ _ _ => X
  refine x_while (fun n vs own => ∃ lx ly u M N, vs = [some (.ref l₁), some (.ref l₂), some (.ref lx), some (.ref ly), u] ∧ own = [(ly, IL (lim N)), (lx, IL (lim M))] ∧ n = N.toNat ∧ 0 ≤ M ∧ 0 ≤ N ∧ (lim M).length ≤ 300 ∧ (lim N).length ≤ 300 ∧ Int.gcd M N = Int.gcd x y) X y.toNat ⟨_, _, _, _, _, rfl, rfl, rfl, hx, hy, hz, hz', rfl⟩ ?_
  rintro n vs own h tk ⟨lx, ly, u, M, N, rfl, rfl, rfl, hX, hY, hlX, hlY, hg⟩ X
  repeat none_booked
  refine split_if (fun hc => ?_) (fun hc => ?_)
  · have hYp : 0 < N := by
      rcases Int.lt_or_le 0 N with z | z
      · exact z
      · rw [show N = 0 by omega, lim_zero] at hc; simp at hc
    have hm0 : 0 ≤ M % N := Int.emod_nonneg _ (by omega)
    have hm1 : M % N < N := Int.emod_lt_of_pos _ hYp
    repeat none_booked
    refine c_divmod (W.keeps (Fx.fr (by assumption)).keep) ao (by got_up) (by got_up) hX hYp hlX hlY ?_
    intro p lq lr h tk g
    rename Fx _ _ _ _ _ _ => X9
    have X9 := X9.gain3 g
    repeat none_booked
    refine x_nil (Turn.next0 (by assumption) ⟨_, ?_, _, _, _, _, _, rfl, rfl, rfl, hY, hm0, hlY, ?_, ?_⟩ (by k_subL))
    · omega
    · exact Nat.le_trans (len_mono N hY _ hm0 (by omega)) hlY
    · rw [gcd_step M N hX hY, hg]
  · have hY0 : N = 0 := by
      rcases Int.lt_or_le 0 N with z | z
      · have := len_lim_pos z; omega
      · omega
    subst hY0
    have e := gcd_zero M hX
    rw [hg] at e
    repeat none_booked
    rename Fx _ _ _ _ _ _ => X9
    exact ret _ _ _ (e ▸ X9.ret (by k_subL))

theorem c_with_sign {l : Addr} {sn m : Int} {t : Tok} (W : Wd T (KK w) h) (ao : AOk A (d + 1)) (ha : Has h l (IL (lim m))) (hm : 0 ≤ m) (hz : (lim m).length ≤ 1000)
    (ret : ∀ p l t h' tk', Gain h h' [(p, TV [.int (if m = 0 then 0 else sn) t, .ref l]), (l, IL (lim m))] → Q (.ref p) (mk s h' tk')) : CallF prog w A 105 [.int sn t, .ref l] Q E (mk s h tk) := by
  refine enterK (binds := [("sign", .int sn t), ("magnitude", .ref l)]) (ns := ["sign", "magnitude"]) (gs := ["len"]) W ao rfl (by conv => lhs; whnf) (by kernel_rfl) (by kernel_rfl) (by kernel_rfl) (by k_clsL) ?_
  intro A nm scope f cd L h₁ tk X ao sc gs
  repeat none_booked
  refine split_if (fun hc => ?_) (fun hc => ?_)
  · have hm0 : m = 0 := (lim_eq_nil hm).mp (List.length_eq_zero_iff.mp (by omega))
    subst hm0
    repeat none_booked
    rename Fx _ _ _ _ _ _ => X9
    refine' ret _ _ _ _ _ ?g
    case g => (rw [if_pos rfl, lim_zero]; exact X9.ret (by k_subL))
  · have hm0 : m ≠ 0 := by rintro rfl; rw [lim_zero] at hc; exact hc rfl
    repeat none_booked
    rename Fx _ _ _ _ _ _ => X9
    refine' ret _ _ _ _ _ ?g
    case g => (rw [if_neg hm0]; exact X9.ret (by k_subL))

theorem c_signed_from_int {n : Int} {t : Tok} (W : Wd T (KK w) h) (ao : AOk A (d + 2)) (hz : (lim n.natAbs).length ≤ 1000)
    (ret : ∀ p l t h' tk', Gain h h' [(p, TV [.int (sg n) t, .ref l]), (l, IL (lim n.natAbs))] → Q (.ref p) (mk s h' tk')) : CallF prog w A 112 [.int n t] Q E (mk s h tk) := by
  refine enterK (binds := [("n", .int n t)]) (ns := ["n"]) (gs := ["from_int", "with_sign"]) W ao rfl (by conv => lhs; whnf) (by kernel_rfl) (by kernel_rfl) (by kernel_rfl) (by k_clsL) ?_
  intro A nm scope f cd L h₁ tk X ao sc gs
  repeat none_booked
  refine split_if (fun hc => ?_) (fun hc => ?_)
  · have e : -n = (n.natAbs : Int) := by omega
    repeat none_booked
    rw [e]
    refine c_from_int (W.keeps X.fr.keep) ao (by omega) hz ?_
    intro r h tk g
    have X := X.gain1 g
    repeat none_booked
    rename Fx _ _ _ _ _ _ => X9
    refine' ret _ _ _ _ _ ?g
    case g => (rw [sg_neg hc]; exact X9.ret (by k_subL))
  · have e : n = (n.natAbs : Int) := by omega
    repeat none_booked
    refine c_from_int (W.keeps X.fr.keep) ao (by omega) (by rw [e]; exact hz) ?_
    intro r h tk g
    have X := X.gain1 g
    refine c_with_sign (W.keeps X.fr.keep) ao (by got_up) (by omega) (by rw [e]; exact hz) ?_
    intro p l t h tk g
    have X := X.gain2 g
    have e2 : sg n = if n = 0 then 0 else 1 := by unfold sg; rw [if_neg hc]
    refine' ret _ _ _ _ _ ?g
    case g => (rw [e2, ← e]; exact X.ret (by k_subL))

theorem c_signed_mul {p₁ p₂ l₁ l₂ : Addr} {x y sx sy mx my : Int} {t₁ t₂ : Tok} (W : Wd T (KK w) h) (ao : AOk A (d + 3)) (hp : Has h p₁ (TV [.int sx t₁, .ref l₁])) (ha : Has h l₁ (IL (lim mx))) (hp' : Has h p₂ (TV [.int sy t₂, .ref l₂])) (hb : Has h l₂ (IL (lim my)))
    (hsx : sx = sg x) (hmx : mx = x.natAbs) (hsy : sy = sg y) (hmy : my = y.natAbs) (hz : (lim mx).length ≤ 300) (hz' : (lim my).length ≤ 300)
    (ret : ∀ p l t h' tk', Gain h h' [(p, TV [.int (sg (x * y)) t, .ref l]), (l, IL (lim (x * y).natAbs))] → Q (.ref p) (mk s h' tk')) : CallF prog w A 126 [.ref p₁, .ref p₂] Q E (mk s h tk) := by
  refine enterK (binds := [("x", .ref p₁), ("y", .ref p₂)]) (ns := ["x", "y"]) (gs := ["mul_school"]) W ao rfl (by conv => lhs; whnf) (by kernel_rfl) (by kernel_rfl) (by kernel_rfl) (by k_clsL) ?_
  intro A nm scope f cd L h₁ tk X ao sc gs
  have b1 := sg_b x
  have b2 := sg_b y
  repeat none_booked
  refine c_mul_school (W.keeps X.fr.keep) ao (by got_up) (by got_up) (by omega) (by omega) (by omega) (by omega) ?_
  intro r h tk g
  have X := X.gain1 g
  repeat none_booked
  rename Fx _ _ _ _ _ _ => X9
  rw [hsx, hsy, hmx, hmy, sg_mul, natAbs_mulI] at X9
  exact ret _ _ _ _ _ (X9.ret (by k_subL))

theorem c_signed_add {p₁ p₂ l₁ l₂ : Addr} {x y sx sy mx my : Int} {t₁ t₂ : Tok} (W : Wd T (KK w) h) (ao : AOk A (d + 3)) (hp : Has h p₁ (TV [.int sx t₁, .ref l₁])) (ha : Has h l₁ (IL (lim mx))) (hp' : Has h p₂ (TV [.int sy t₂, .ref l₂])) (hb : Has h l₂ (IL (lim my)))
    (hsx : sx = sg x) (hmx : mx = x.natAbs) (hsy : sy = sg y) (hmy : my = y.natAbs) (hz : (lim mx).length ≤ 300) (hz' : (lim my).length ≤ 300)
    (ret : ∀ p l t v m h' tk', Gain h h' [(p, TV [.int v t, .ref l]), (l, IL (lim m))] → v = sg (x + y) → m = (x + y).natAbs → Q (.ref p) (mk s h' tk')) : CallF prog w A 119 [.ref p₁, .ref p₂] Q E (mk s h tk) := by
  refine enterK (binds := [("x", .ref p₁), ("y", .ref p₂)]) (ns := ["x", "y"]) (gs := ["add", "compare", "with_sign", "sub"]) W ao rfl (by conv => lhs; whnf) (by kernel_rfl) (by kernel_rfl) (by kernel_rfl) (by k_clsL) ?_
  intro A nm scope f cd L h₁ tk X ao sc gs
  repeat none_booked
  refine split_if (fun hc => ?_) (fun hc => ?_)
  · have hx0 : x = 0 := sg_eq0.mp (hsx ▸ hc)
    repeat none_booked
    rename Fx _ _ _ _ _ _ => X9
    exact ret _ _ _ _ _ _ _ (X9.ret (by k_subL)) (by rw [hsy, hx0, Int.zero_add]) (by rw [hmy, hx0, Int.zero_add])
  · have hx0 : x ≠ 0 := fun z => hc (hsx ▸ sg_eq0.mpr z)
    repeat none_booked
    refine split_if (fun hc => ?_) (fun hc => ?_)
    · have hy0 : y = 0 := sg_eq0.mp (hsy ▸ hc)
      repeat none_booked
      rename Fx _ _ _ _ _ _ => X9
      exact ret _ _ _ _ _ _ _ (X9.ret (by k_subL)) (by rw [hsx, hy0, Int.add_zero]) (by rw [hmx, hy0, Int.add_zero])
    · have hy0 : y ≠ 0 := fun z => hc (hsy ▸ sg_eq0.mpr z)
      repeat none_booked
      refine split_if (fun hc => ?_) (fun hc => ?_)
      · have hs : sg x = sg y := by rw [← hsx, ← hsy]; exact hc
        have hxy : (0 < x ∧ 0 < y) ∨ (x < 0 ∧ y < 0) := by
          unfold sg at hs
          rcases Int.lt_trichotomy x 0 with z | z | z <;> rcases Int.lt_trichotomy y 0 with z' | z' | z' <;> simp_all <;> omega
        repeat none_booked
        refine c_add (W.keeps X.fr.keep) ao (by got_up) (by got_up) (by omega) (by omega) (by omega) (by omega) ?_
        intro r h tk g
        have X := X.gain1 g
        repeat none_booked
        rename Fx _ _ _ _ _ _ => X9
        refine ret _ _ _ _ _ _ _ (X9.ret (by k_subL)) ?_ ?_
        · rw [hsx]
          rcases hxy with ⟨z, z'⟩ | ⟨z, z'⟩
          · rw [sg_pos z, sg_pos (by omega)]
          · rw [sg_neg z, sg_neg (by omega)]
        · rw [hmx, hmy]; omega
      · have hs : sg x ≠ sg y := by rw [← hsx, ← hsy]; exact hc
        have hxy : (0 < x ∧ y < 0) ∨ (x < 0 ∧ 0 < y) := by
          rcases Int.lt_trichotomy x 0 with z | z | z <;> rcases Int.lt_trichotomy y 0 with z' | z' | z'
          · exact absurd ((sg_neg z).trans (sg_neg z').symm) hs
          · omega
          · omega
          · omega
          · omega
          · omega
          · omega
          · omega
          · exact absurd ((sg_pos z).trans (sg_pos z').symm) hs
        repeat none_booked
        refine c_compare (W.keeps X.fr.keep) ao (by got_up) (by got_up) (by omega) (by omega) (by omega) (by omega) ?_
        intro t h tk g
        have X := X.gain0 g
        have hcmp : cmpI mx my ≥ 0 ↔ my ≤ mx := by unfold cmpI; split <;> (try split) <;> omega
        repeat none_booked
        refine split_if (fun hc => ?_) (fun hc => ?_)
        · rw [hcmp] at hc
          repeat none_booked
          refine c_sub (W.keeps X.fr.keep) ao (by got_up) (by got_up) (by omega) (by omega) hc (by omega) ?_
          intro r h tk g
          have X := X.gain1 g
          have hl : (lim (mx - my)).length ≤ 1000 := Nat.le_trans (len_mono mx (by omega) _ (by omega) (by omega)) (by omega)
          refine c_with_sign (W.keeps X.fr.keep) ao (by got_up) (by omega) hl ?_
          intro p l t h tk g
          have X := X.gain2 g
          refine ret _ _ _ _ _ _ _ (X.ret (by k_subL)) ?_ ?_
          · by_cases hz0 : mx - my = 0
            · rw [if_pos hz0, show x + y = 0 by omega]; rfl
            · rw [if_neg hz0, hsx]
              rcases hxy with ⟨z, z'⟩ | ⟨z, z'⟩
              · rw [sg_pos z, sg_pos (by omega)]
              · rw [sg_neg z, sg_neg (by omega)]
          · omega
        · rw [hcmp] at hc
          repeat none_booked
          refine c_sub (W.keeps X.fr.keep) ao (by got_up) (by got_up) (by omega) (by omega) (by omega) (by omega) ?_
          intro r h tk g
          have X := X.gain1 g
          repeat none_booked
          rename Fx _ _ _ _ _ _ => X9
          refine ret _ _ _ _ _ _ _ (X9.ret (by k_subL)) ?_ ?_
          · rw [hsy]
            rcases hxy with ⟨z, z'⟩ | ⟨z, z'⟩
            · rw [sg_neg z', sg_neg (by omega)]
            · rw [sg_pos z', sg_pos (by omega)]
          · omega

theorem c_fraction_of {p₁ p₂ l₁ l₂ : Addr} {x y sx sy mx my : Int} {t₁ t₂ : Tok} (W : Wd T (KK w) h) (ao : AOk A (d + 5)) (hp : Has h p₁ (TV [.int sx t₁, .ref l₁])) (ha : Has h l₁ (IL (lim mx))) (hp' : Has h p₂ (TV [.int sy t₂, .ref l₂])) (hb : Has h l₂ (IL (lim my)))
    (hsx : sx = sg x) (hmx : mx = x.natAbs) (hsy : sy = sg y) (hmy : my = y.natAbs) (hy0 : y ≠ 0) (hz : (lim mx).length ≤ 300) (hz' : (lim my).length ≤ 300)
    (ret : ∀ p p' lt ld t h' tk', Gain h h' [(p, TV [.ref p', .ref ld]), (p', TV [.int (sg (x * y)) t, .ref lt]), (lt, IL (lim ((x.natAbs : Int) / Int.gcd x y))), (ld, IL (lim ((y.natAbs : Int) / Int.gcd x y)))] → Q (.ref p) (mk s h' tk')) :
    CallF prog w A 140 [.ref p₁, .ref p₂] Q E (mk s h tk) := by
  refine enterK (binds := [("n", .ref p₁), ("d", .ref p₂)]) (ns := ["n", "d", "g", "top"]) (gs := ["gcd_nat", "divmod_long"]) W ao rfl (by conv => lhs; whnf) (by kernel_rfl) (by kernel_rfl) (by kernel_rfl) (by k_clsL) ?_
  intro A nm scope f cd L h₁ tk X ao sc gs
  have b1 := sg_b x
  have b2 := sg_b y
  have hg : (Int.gcd mx my) = Int.gcd x y := by rw [hmx, hmy]; simp [Int.gcd]
  have hgp : (0 : Int) < Int.gcd x y := by
    have := Int.gcd_pos_of_ne_zero_right x hy0
    omega
  have hgl : (lim (Int.gcd x y)).length ≤ 300 := by
    have := gcd_le_len (x := mx) (y := my) (by omega) (by omega)
    rw [hg] at this
    omega
  repeat none_booked
  refine split_if (fun hc => absurd (sg_eq0.mp (hsy ▸ hc)) hy0) (fun hc => ?_)
  repeat none_booked
  refine c_gcd (W.keeps X.fr.keep) ao (by got_up) (by got_up) (by omega) (by omega) hz hz' ?_
  intro r h tk g
  rw [hg] at g
  have X := X.gain1 g
  repeat none_booked
  rename Fx _ _ _ _ _ _ => X9
  refine c_divmod (W.keeps X9.fr.keep) (ao.mono (by omega : d + 3 ≤ d + 4)) (by got_up) (by got_up) (by omega) hgp hz hgl ?_
  intro p lq lr h tk g
  have X9 := X9.gain3 g
  repeat none_booked
  rename Fx _ _ _ _ _ _ => X9
  refine c_divmod (W.keeps X9.fr.keep) (ao.mono (by omega : d + 3 ≤ d + 4)) (by got_up) (by got_up) (by omega) hgp hz' hgl ?_
  intro p lq lr h tk g
  have X9 := X9.gain3 g
  repeat none_booked
  rename Fx _ _ _ _ _ _ => X9
  rw [hsx, hsy, hmx, hmy, sg_mul] at X9
  exact ret _ _ _ _ _ _ _ (X9.ret (by k_subL))
end
section
variable {prog : Program} {w : World} {A : Around} {E : Value → Shared → Prop} {s : Shared} {h : Heap} {tk d : Nat} {Q : Value → Shared → Prop}
theorem c_to_decimal {l : Addr} {x : Int} (W : Wd T (KK w) h) (ao : AOk A (d + 1)) (ha : Has h l (IL (lim x))) (hx : 0 ≤ x) (hz : (lim x).length ≤ 300)
    (ret : ∀ t h' tk', Gain h h' [] → Q (.str (S x) t) (mk s h' tk')) : CallF prog w A 84 [.ref l] Q E (mk s h tk) := by
  refine enterK (binds := [("a", .ref l)]) (ns := ["a", "pieces", "i"]) (gs := ["len", "str", "range"]) W ao rfl (by conv => lhs; whnf) (by kernel_rfl) (by kernel_rfl) (by kernel_rfl) (by k_clsL) ?_
  intro A nm scope f cd L h₁ tk X ao sc gs
  repeat none_booked
  refine split_if (fun hc => ?_) (fun hc => ?_)
  · have hx0 : x = 0 := (lim_eq_nil hx).mp (List.length_eq_zero_iff.mp (by omega))
    subst hx0
    repeat none_booked
    exact ret _ _ _ (X.ret (by k_subL))
  have hok := ok_lim x hx
  have hb := getD_ok hok
  have b1 := hb ((lim x).length - 1 : Int).toNat
  repeat none_booked
  rename Fx _ _ _ _ _ _ => X9
  have hn : 0 < (lim x).length := by omega
  have e1 : (((lim x).length : Int) - 1).toNat = (lim x).length - 1 := by omega
  have v1 := val_drop (l := lim x) (k := (lim x).length - 1) (by omega)
  rw [show (lim x).length - 1 + 1 = (lim x).length by omega, val_drop_all (Nat.le_refl _)] at v1
  refine r_rangeDown (k := 2) (by omega) (by omega) (by omega) (by omega) ao.handled sc rfl
    (fun k vs own => ∃ u lp P, vs = [some (.ref l), some (.ref lp), u] ∧ own = [(lp, SL P)] ∧ P.length = k + 1 ∧ (∀ y ∈ P, y.length ≤ 4) ∧ Str.join "" P = S (val ((lim x).drop ((lim x).length - 1 - k)))) X9 ⟨_, _, _, rfl, rfl, rfl, ?_, ?_⟩ ?_ ?_
  · intro y hy
    rw [List.mem_singleton.mp hy, e1]
    exact S_len (hb _).1 (hb _).2
  · rw [e1, show (lim x).length - 1 - 0 = (lim x).length - 1 by omega, v1, Int.mul_zero, Int.add_zero]
    rfl
  · rintro k t vs own h tk it hk ⟨u, lp, P, rfl, rfl, hP, hy, hj⟩ X
    dsimp only [List.set] at X
    have b2 := hb (((lim x).length : Int) - 2 - k).toNat
    have e2 : (((lim x).length : Int) - 2 - k).toNat = (lim x).length - 2 - k := by omega
    repeat none_booked
    refine r_zf ?_
    repeat none_booked
    refine ⟨_, _, _, _, rfl, rfl, ?_⟩
    intro t tk
    refine r_appendS (by assumption) (by repeat (first | with_reducible exact Rep.head | with_reducible apply Rep.tail)) (by omega) ?_
    intro h X
    refine x_nil (Turn.next1 (by assumption) ⟨_, _, _, rfl, rfl, ?_, ?_, ?_⟩ (by k_subL))
    · simp [hP]
    · intro y hy'
      rcases List.mem_append.mp hy' with z | z
      · exact hy y z
      · rw [List.mem_singleton.mp z, zfill4_len b2.1 b2.2]; decide
    · have hv := val_drop (l := lim x) (k := (lim x).length - 2 - k) (by omega)
      have hp := val_drop_pos (x := x) hx (k := (lim x).length - 2 - k + 1) (by omega)
      rw [show (lim x).length - 1 - k = (lim x).length - 2 - k + 1 by omega] at hj
      rw [join_snoc, hj, S_step hp b2.1 b2.2, e2, show (lim x).length - 1 - (k + 1) = (lim x).length - 2 - k by omega, hv]
  · rintro vs own h tk ⟨u, lp, P, rfl, rfl, hP, hy, hj⟩ X
    repeat none_booked
    refine r_jn ?_
    intro tk
    repeat none_booked
    refine ⟨_, _, _, _, rfl, rfl, Fx.own_ X (by repeat (first | with_reducible exact List.mem_cons_self | with_reducible apply List.mem_cons_of_mem)), joinOk_of ?_, ?_⟩
    · have : ∀ P : List Str, (∀ y ∈ P, y.length ≤ 4) → (P.map (·.length)).sum ≤ 4 * P.length := by
        intro P
        induction P with
        | nil => intro _; simp
        | cons a r ih =>
          intro h
          have h1 := h a (.head _)
          have h2 := ih fun y hy => h y (.tail _ hy)
          simp only [List.map_cons, List.sum_cons, List.length_cons]
          omega
      have h1 := this P hy
      have h2 : (Str.ofString "").length = 0 := by decide +kernel
      show _ + P.length * (Str.ofString "").length ≤ _
      rw [h2]
      omega
    · intro t tk
      have e : Txt.join "" P = S x := by
        rw [show Txt.join "" P = Str.join "" P from StrLaws.glued_eq_join _ _]
        show Str.join "" P = S x
        rw [hj, show (lim x).length - 1 - (((lim x).length : Int) - 2 - -1).toNat = 0 by omega, List.drop_zero, val_lim x hx]
      rw [e]
      exact ret _ _ _ (X.ret (by k_subL))
theorem c_signed_to_decimal {p₁ l₁ : Addr} {x sx mx : Int} {t₁ : Tok} (W : Wd T (KK w) h) (ao : AOk A (d + 2)) (hp : Has h p₁ (TV [.int sx t₁, .ref l₁])) (ha : Has h l₁ (IL (lim mx)))
    (hsx : sx = sg x) (hmx : mx = x.natAbs) (hz : (lim mx).length ≤ 300)
    (ret : ∀ t h' tk', Gain h h' [] → Q (.str (S x) t) (mk s h' tk')) : CallF prog w A 133 [.ref p₁] Q E (mk s h tk) := by
  refine enterK (binds := [("x", .ref p₁)]) (ns := ["x"]) (gs := ["to_decimal"]) W ao rfl (by conv => lhs; whnf) (by kernel_rfl) (by kernel_rfl) (by kernel_rfl) (by k_clsL) ?_
  intro A nm scope f cd L h₁ tk X ao sc gs
  repeat none_booked
  refine split_if (fun hc => ?_) (fun hc => ?_)
  · have hx0 : x < 0 := by unfold sg at hsx; split at hsx <;> (try split at hsx) <;> omega
    repeat none_booked
    refine c_to_decimal (W.keeps X.fr.keep) ao (by got_up) (by omega) hz ?_
    intro t h tk g
    have X := X.gain0 g
    have e : S x = Str.ofString "-" ++ S mx := by rw [S_neg hx0, show -x = mx by omega]
    refine r_addS ?_ ?_
    · have h1 : (Str.ofString "-").length = 1 := by decide +kernel
      have h2 := S_len_le (x := mx) (by omega) hz
      omega
    · intro t tk
      rw [← e]
      exact ret _ _ _ (X.ret (by k_subL))
  · have hx0 : 0 ≤ x := by unfold sg at hsx; split at hsx <;> (try split at hsx) <;> omega
    repeat none_booked
    refine c_to_decimal (W.keeps X.fr.keep) ao (by got_up) (by omega) hz ?_
    intro t h tk g
    have X := X.gain0 g
    rw [show mx = x by omega]
    exact ret _ _ _ (X.ret (by k_subL))
end
section
variable {prog : Program} {w : World} {A : Around} {E : Value → Shared → Prop} {s : Shared} {h : Heap} {tk d : Nat} {Q : Value → Shared → Prop}
theorem c_pow {l : Addr} {x e : Int} {t : Tok} (W : Wd T (KK w) h) (ao : AOk A (d + 3)) (ha : Has h l (IL (lim x))) (hx : 1 ≤ x) (he : 0 ≤ e) (hz : (lim (x ^ e.toNat)).length ≤ 300)
    (ret : ∀ r h' tk', Gain h h' [(r, IL (lim (x ^ e.toNat)))] → Q (.ref r) (mk s h' tk')) : CallF prog w A 91 [.ref l, .int e t] Q E (mk s h tk) := by
  refine enterK (binds := [("a", .ref l), ("e", .int e t)]) (ns := ["a", "e", "power", "square"]) (gs := ["mul_school"]) W ao rfl (by conv => lhs; whnf) (by kernel_rfl) (by kernel_rfl) (by kernel_rfl) (by k_clsL) ?_
  intro A nm scope f cd L h₁ tk X ao sc gs
  repeat none_booked
  rename Fx _ _ _ _ _ _ => X9
  rw [show [(1 : Int)] = lim 1 from (lim_small (by decide) (by decide)).symm] at X9
  have hR : 1 ≤ x ^ e.toNat := pow_ge1 hx _
  refine x_while (fun n vs own => ∃ e' t lp ls P S, vs = [some (.ref l), some (.int e' t), some (.ref lp), some (.ref ls)] ∧ 0 ≤ e' ∧ n = e'.toNat ∧ 1 ≤ P ∧ 1 ≤ S ∧ P * S ^ e'.toNat = x ^ e.toNat ∧
    ((own = [(lp, IL (lim P))] ∧ ls = l ∧ S = x) ∨ own = [(ls, IL (lim S)), (lp, IL (lim P))])) X9 e.toNat ⟨_, _, _, _, _, x, rfl, he, rfl, by decide, hx, by rw [Int.one_mul], .inl ⟨rfl, rfl, rfl⟩⟩ ?_
  have fin : ∀ (e' P S : Int), 0 < e' → 1 ≤ P → 1 ≤ S → P * S ^ e'.toNat = x ^ e.toNat → (lim P).length ≤ 300 ∧ (lim S).length ≤ 300 ∧ 1 ≤ P * S ∧ 1 ≤ S * S ∧
      (e' % 2 = 1 → (P * S) * (S * S) ^ (e' / 2).toNat = x ^ e.toNat) ∧ (e' % 2 ≠ 1 → P * (S * S) ^ (e' / 2).toNat = x ^ e.toNat) ∧ (e' % 2 = 1 → ¬ e' / 2 > 0 → (P * S) * S ^ (e' / 2).toNat = x ^ e.toNat) := by
    intro e' P S h0 hP hS hj
    have h1 := pow_ge_self hS (n := e'.toNat) (by omega)
    have h2 := pow_ge1 hS e'.toNat
    have h3 := mul_ge_l hP h2
    have h4 := mul_ge_r hP h2
    have ee : (e' / 2).toNat = e'.toNat / 2 := by omega
    refine ⟨Nat.le_trans (len_mono _ (by omega) _ (by omega) (by omega)) hz, Nat.le_trans (len_mono _ (by omega) _ (by omega) (by omega)) hz, mul_ge1 hP hS, mul_ge1 hS hS, fun ho => ?_, fun ho => ?_, fun ho h0' => ?_⟩
    · rw [← hj, pow_odd S e'.toNat (by omega), Int.mul_assoc, ee]
    · rw [← hj, pow_even S e'.toNat (by omega), ee]
    · have : e' = 1 := by omega
      subst this
      rw [← hj, show (1 / 2 : Int).toNat = 0 by decide, show (1 : Int).toNat = 1 by decide, Int.pow_zero, Int.mul_one, Int.pow_succ, Int.pow_zero, Int.one_mul]
  rintro n vs own h tk ⟨e', t, lp, ls, P, S, rfl, he', rfl, hP, hS, hj, hown⟩ X
  rcases hown with ⟨rfl, rfl, rfl⟩ | rfl
  all_goals
    repeat none_booked
    refine split_if (fun hc => ?_) (fun hc => ?_)
  · obtain ⟨f1, f2, f3, f4, f5, f6, f7⟩ := fin e' P S hc hP hS hj
    repeat none_booked
    refine split_if (fun ho => ?_) (fun ho => ?_)
    · repeat none_booked
      refine c_mul_school (W.keeps (Fx.fr (by assumption)).keep) ao (by got_up) (by got_up) (by omega) (by omega) (by omega) (by omega) ?_
      intro r h tk g
      rename Fx _ _ _ _ _ _ => X9
      have X9 := X9.gain1 g
      repeat none_booked
      refine split_if (fun h2 => ?_) (fun h2 => ?_)
      · repeat none_booked
        refine c_mul_school (W.keeps (Fx.fr (by assumption)).keep) ao (by got_up) (by got_up) (by omega) (by omega) (by omega) (by omega) ?_
        intro r h tk g
        rename Fx _ _ _ _ _ _ => X9
        have X9 := X9.gain1 g
        repeat none_booked
        exact x_nil (Turn.next0 (by assumption) ⟨_, by omega, _, _, _, _, _, _, rfl, by omega, rfl, f3, f4, f5 ho, .inr rfl⟩ (by k_subL))
      · repeat none_booked
        exact x_nil (Turn.next0 (by assumption) ⟨_, by omega, _, _, _, _, _, _, rfl, by omega, rfl, f3, hS, f7 ho h2, .inl ⟨rfl, rfl, rfl⟩⟩ (by k_subL))
    · repeat none_booked
      refine split_if (fun h2 => ?_) (fun h2 => ?_)
      · repeat none_booked
        refine c_mul_school (W.keeps (Fx.fr (by assumption)).keep) ao (by got_up) (by got_up) (by omega) (by omega) (by omega) (by omega) ?_
        intro r h tk g
        rename Fx _ _ _ _ _ _ => X9
        have X9 := X9.gain1 g
        repeat none_booked
        exact x_nil (Turn.next0 (by assumption) ⟨_, by omega, _, _, _, _, _, _, rfl, by omega, rfl, hP, f4, f6 ho, .inr rfl⟩ (by k_subL))
      · omega
  · rw [show e'.toNat = 0 by omega, Int.pow_zero, Int.mul_one] at hj
    repeat none_booked
    rename Fx _ _ _ _ _ _ => X9
    rw [hj] at X9
    exact ret _ _ _ (X9.ret (by k_subL))
  · obtain ⟨f1, f2, f3, f4, f5, f6, f7⟩ := fin e' P S hc hP hS hj
    repeat none_booked
    refine split_if (fun ho => ?_) (fun ho => ?_)
    · repeat none_booked
      refine c_mul_school (W.keeps (Fx.fr (by assumption)).keep) ao (by got_up) (by got_up) (by omega) (by omega) (by omega) (by omega) ?_
      intro r h tk g
      rename Fx _ _ _ _ _ _ => X9
      have X9 := X9.gain1 g
      repeat none_booked
      refine split_if (fun h2 => ?_) (fun h2 => ?_)
      · repeat none_booked
        refine c_mul_school (W.keeps (Fx.fr (by assumption)).keep) ao (by got_up) (by got_up) (by omega) (by omega) (by omega) (by omega) ?_
        intro r h tk g
        rename Fx _ _ _ _ _ _ => X9
        have X9 := X9.gain1 g
        repeat none_booked
        exact x_nil (Turn.next0 (by assumption) ⟨_, by omega, _, _, _, _, _, _, rfl, by omega, rfl, f3, f4, f5 ho, .inr rfl⟩ (by k_subL))
      · repeat none_booked
        exact x_nil (Turn.next0 (by assumption) ⟨_, by omega, _, _, _, _, _, _, rfl, by omega, rfl, f3, hS, f7 ho h2, .inr rfl⟩ (by k_subL))
    · repeat none_booked
      refine split_if (fun h2 => ?_) (fun h2 => ?_)
      · repeat none_booked
        refine c_mul_school (W.keeps (Fx.fr (by assumption)).keep) ao (by got_up) (by got_up) (by omega) (by omega) (by omega) (by omega) ?_
        intro r h tk g
        rename Fx _ _ _ _ _ _ => X9
        have X9 := X9.gain1 g
        repeat none_booked
        exact x_nil (Turn.next0 (by assumption) ⟨_, by omega, _, _, _, _, _, _, rfl, by omega, rfl, hP, f4, f6 ho, .inr rfl⟩ (by k_subL))
      · omega
  · rw [show e'.toNat = 0 by omega, Int.pow_zero, Int.mul_one] at hj
    repeat none_booked
    rename Fx _ _ _ _ _ _ => X9
    rw [hj] at X9
    exact ret _ _ _ (X9.ret (by k_subL))

theorem c_power_of_two {e : Int} {t : Tok} (W : Wd T (KK w) h) (ao : AOk A (d + 4)) (he : 0 ≤ e) (he' : e < 70)
    (ret : ∀ t h' tk', Gain h h' [] → Q (.str (S (2 ^ e.toNat)) t) (mk s h' tk')) : CallF prog w A 168 [.int e t] Q E (mk s h tk) := by
  refine enterK (binds := [("n", .int e t)]) (ns := ["n"]) (gs := ["to_decimal", "pow_nat"]) W ao rfl (by conv => lhs; whnf) (by kernel_rfl) (by kernel_rfl) (by kernel_rfl) (by k_clsL) ?_
  intro A nm scope f cd L h₁ tk X ao sc gs
  have hl : (lim (2 ^ e.toNat)).length ≤ 300 := by
    have h1 := pow_ge1 (q := 2) (by decide) e.toNat
    have h2 : (2 : Int) ^ e.toNat ≤ 2 ^ 70 := by
      have : ∀ k, k < 70 → (2 : Int) ^ k ≤ 2 ^ 70 := by decide +kernel
      exact this _ (by omega)
    have := len_b (x := 2 ^ e.toNat) (by omega) (Int.lt_of_le_of_lt h2 (by decide +kernel))
    omega
  have h1 := pow_ge1 (q := 2) (by decide) e.toNat
  repeat none_booked
  rename Fx _ _ _ _ _ _ => X9
  rw [show [(2 : Int)] = lim 2 from (lim_small (by decide) (by decide)).symm] at X9
  refine c_pow (W.keeps X9.fr.keep) ao (by got_up) (by decide) he hl ?_
  intro r h tk g
  have X9 := X9.gain1 g
  refine c_to_decimal (W.keeps X9.fr.keep) ao (by got_up) (by omega) hl ?_
  intro t h tk g
  have X9 := X9.gain0 g
  exact ret _ _ _ (X9.ret (by k_subL))

theorem c_factorial {n : Int} {t : Tok} (W : Wd T (KK w) h) (ao : AOk A (d + 2)) (hn : 0 ≤ n) (hn' : n ≤ 18)
    (ret : ∀ t h' tk', Gain h h' [] → Q (.str (S (fct n.toNat)) t) (mk s h' tk')) : CallF prog w A 154 [.int n t] Q E (mk s h tk) := by
  refine enterK (binds := [("n", .int n t)]) (ns := ["n", "a", "k"]) (gs := ["to_decimal", "mul_small", "range"]) W ao rfl (by conv => lhs; whnf) (by kernel_rfl) (by kernel_rfl) (by kernel_rfl) (by k_clsL) ?_
  intro A nm scope f cd L h₁ tk X ao sc gs
  repeat none_booked
  rename Fx _ _ _ _ _ _ => X9
  rw [show [(1 : Int)] = lim (fct 1) from (lim_small (by decide) (by decide)).symm] at X9
  refine r_range2 (k := 2) (by omega) (by omega) (by omega) (by omega) ao.handled sc rfl (fun i vs own => ∃ u la, vs = [some (.int n t), some (.ref la), u] ∧ own = [(la, IL (lim (fct (i + 1))))]) X9 ⟨_, _, rfl, rfl⟩ ?_ ?_
  · rintro i t vs own h tk it hi ⟨u, la, rfl, rfl⟩ X
    dsimp only [List.set] at X
    obtain ⟨b1, b2⟩ := fct_b (i + 1) (by omega)
    have b3 := len_b b1 (by omega)
    repeat none_booked
    refine c_mul_small (W.keeps (Fx.fr (by assumption)).keep) ao (by got_up) b1 (by omega) (by omega) (by omega) ?_
    intro r h tk g
    rename Fx _ _ _ _ _ _ => X9
    have X9 := X9.gain1 g
    rw [show (2 + (i : Int)) * fct (i + 1) = fct (i + 1 + 1) by rw [fct]; congr 1; omega] at X9
    repeat none_booked
    exact x_nil (Turn.next1 (by assumption) ⟨_, _, rfl, rfl⟩ (by k_subL))
  · rintro vs own h tk ⟨u, la, rfl, rfl⟩ X
    have e : fct ((n + 1 - 2).toNat + 1) = fct n.toNat := by
      by_cases h0 : n = 0
      · subst h0; rfl
      · rw [show (n + 1 - 2).toNat + 1 = n.toNat by omega]
    rw [e] at X
    obtain ⟨b1, b2⟩ := fct_b n.toNat (by omega)
    have b3 := len_b b1 (by omega)
    repeat none_booked
    refine c_to_decimal (W.keeps (Fx.fr (by assumption)).keep) ao (by got_up) b1 (by omega) ?_
    intro t h tk g
    have X := X.gain0 g
    exact ret _ _ _ (X.ret (by k_subL))

theorem c_fibonacci {n : Int} {t : Tok} (W : Wd T (KK w) h) (ao : AOk A (d + 2)) (hn : 0 ≤ n) (hn' : n ≤ 47)
    (ret : ∀ t h' tk', Gain h h' [] → Q (.str (S (fib n.toNat)) t) (mk s h' tk')) : CallF prog w A 161 [.int n t] Q E (mk s h tk) := by
  refine enterK (binds := [("n", .int n t)]) (ns := ["n", "a", "b", "k", "c"]) (gs := ["to_decimal", "add", "range"]) W ao rfl (by conv => lhs; whnf) (by kernel_rfl) (by kernel_rfl) (by kernel_rfl) (by k_clsL) ?_
  intro A nm scope f cd L h₁ tk X ao sc gs
  repeat none_booked
  rename Fx _ _ _ _ _ _ => X9
  rw [show [(1 : Int)] = lim (fib 1) from (lim_small (by decide) (by decide)).symm, show ([] : List Int) = lim (fib 0) from lim_zero.symm] at X9
  refine r_range1 (k := 3) (by omega) (by omega) ao.handled sc rfl (fun i vs own => ∃ u u' la lb, vs = [some (.int n t), some (.ref la), some (.ref lb), u, u'] ∧ own = [(lb, IL (lim (fib (i + 1)))), (la, IL (lim (fib i)))]) X9 ⟨_, _, _, _, rfl, rfl⟩ ?_ ?_
  · rintro i t vs own h tk it hi ⟨u, u', la, lb, rfl, rfl⟩ X
    dsimp only [List.set] at X
    obtain ⟨b1, b2⟩ := fib_b (i + 1) (by omega)
    have b3 := len_b b1 (by omega)
    obtain ⟨b1', b2'⟩ := fib_b i (by omega)
    have b3' := len_b b1' (by omega)
    repeat none_booked
    refine c_add (W.keeps (Fx.fr (by assumption)).keep) ao (by got_up) (by got_up) b1' b1 (by omega) (by omega) ?_
    intro r h tk g
    rename Fx _ _ _ _ _ _ => X9
    have X9 := X9.gain1 g
    rw [show fib i + fib (i + 1) = fib (i + 1 + 1) from rfl] at X9
    repeat none_booked
    exact x_nil (Turn.next1 (by assumption) ⟨_, _, _, _, rfl, rfl⟩ (by k_subL))
  · rintro vs own h tk ⟨u, u', la, lb, rfl, rfl⟩ X
    obtain ⟨b1, b2⟩ := fib_b n.toNat (by omega)
    have b3 := len_b b1 (by omega)
    repeat none_booked
    refine c_to_decimal (W.keeps (Fx.fr (by assumption)).keep) ao (by got_up) b1 (by omega) ?_
    intro t h tk g
    have X := X.gain0 g
    exact ret _ _ _ (X.ret (by k_subL))
end
section
variable {prog : Program} {w : World} {A : Around} {E : Value → Shared → Prop} {s : Shared} {h : Heap} {tk d : Nat} {Q : Value → Shared → Prop}
theorem c_fraction_add {p₁ p₂ q₁ q₂ l₁ l₂ e₁ e₂ : Addr} {x y sx sy mx my D₁ D₂ : Int} {t₁ t₂ : Tok} (W : Wd T (KK w) h) (ao : AOk A (d + 6))
    (hf : Has h p₁ (TV [.ref q₁, .ref e₁])) (hq : Has h q₁ (TV [.int sx t₁, .ref l₁])) (ha : Has h l₁ (IL (lim mx))) (he : Has h e₁ (IL (lim D₁)))
    (hf' : Has h p₂ (TV [.ref q₂, .ref e₂])) (hq' : Has h q₂ (TV [.int sy t₂, .ref l₂])) (hb : Has h l₂ (IL (lim my))) (he' : Has h e₂ (IL (lim D₂)))
    (hsx : sx = sg x) (hmx : mx = x.natAbs) (hsy : sy = sg y) (hmy : my = y.natAbs) (hD : 0 < D₁) (hD' : 0 < D₂) (z1 : (lim mx).length ≤ 100) (z2 : (lim my).length ≤ 100) (z3 : (lim D₁).length ≤ 100) (z4 : (lim D₂).length ≤ 100)
    (ret : ∀ p p' lt ld t h' tk', Gain h h' [(p, TV [.ref p', .ref ld]), (p', TV [.int (sg ((x * D₂ + y * D₁) * (D₁ * D₂))) t, .ref lt]), (lt, IL (lim (((x * D₂ + y * D₁).natAbs : Int) / Int.gcd (x * D₂ + y * D₁) (D₁ * D₂)))), (ld, IL (lim (((D₁ * D₂).natAbs : Int) / Int.gcd (x * D₂ + y * D₁) (D₁ * D₂))))] → Q (.ref p) (mk s h' tk')) :
    CallF prog w A 147 [.ref p₁, .ref p₂] Q E (mk s h tk) := by
  refine enterK (binds := [("f", .ref p₁), ("g", .ref p₂)]) (ns := ["f", "g", "left", "right"]) (gs := ["signed_mul", "fraction_of", "signed_add", "mul_school"]) W ao rfl (by conv => lhs; whnf) (by kernel_rfl) (by kernel_rfl) (by kernel_rfl) (by k_clsL) ?_
  intro A nm scope f cd L h₁ tk X ao sc gs
  have n1 : (lim ((x * D₂).natAbs : Int)).length ≤ 200 := by
    rw [← natAbs_mulI, ← hmx, show (D₂.natAbs : Int) = D₂ by omega]
    have := len_mul (x := mx) (y := D₂) (by omega) (by omega)
    omega
  have n2 : (lim ((y * D₁).natAbs : Int)).length ≤ 200 := by
    rw [← natAbs_mulI, ← hmy, show (D₁.natAbs : Int) = D₁ by omega]
    have := len_mul (x := my) (y := D₁) (by omega) (by omega)
    omega
  have n3 : (lim (D₁ * D₂)).length ≤ 200 := by
    have := len_mul (x := D₁) (y := D₂) (by omega) (by omega)
    omega
  have n4 : (lim ((x * D₂ + y * D₁).natAbs : Int)).length ≤ 201 := by
    have h1 := len_add (x := ((x * D₂).natAbs : Int)) (y := ((y * D₁).natAbs : Int)) (by omega) (by omega)
    have h2 := len_mono (((x * D₂).natAbs : Int) + ((y * D₁).natAbs : Int)) (by omega) ((x * D₂ + y * D₁).natAbs : Int) (by omega) (by omega)
    omega
  have hDD : 0 < D₁ * D₂ := Int.mul_pos hD hD'
  repeat none_booked
  rename Fx _ _ _ _ _ _ => X9
  refine c_signed_mul (x := x) (y := D₂) (W.keeps X9.fr.keep) (ao.mono (by omega : d + 3 ≤ d + 5)) (by got_up) (by got_up) (by got_up) (by got_up) hsx hmx (sg_pos hD').symm (by omega) (by omega) (by omega) ?_
  intro p l t h tk g
  have X9 := X9.gain2 g
  repeat none_booked
  rename Fx _ _ _ _ _ _ => X9
  refine c_signed_mul (x := y) (y := D₁) (W.keeps X9.fr.keep) (ao.mono (by omega : d + 3 ≤ d + 5)) (by got_up) (by got_up) (by got_up) (by got_up) hsy hmy (sg_pos hD).symm (by omega) (by omega) (by omega) ?_
  intro p l t h tk g
  have X9 := X9.gain2 g
  repeat none_booked
  rename Fx _ _ _ _ _ _ => X9
  refine c_signed_add (x := x * D₂) (y := y * D₁) (W.keeps X9.fr.keep) (ao.mono (by omega : d + 3 ≤ d + 5)) (by got_up) (by got_up) (by got_up) (by got_up) rfl rfl rfl rfl (by omega) (by omega) ?_
  intro p l t v m h tk g hv hm
  have X9 := X9.gain2 g
  repeat none_booked
  rename Fx _ _ _ _ _ _ => X9
  refine c_mul_school (W.keeps X9.fr.keep) (ao.mono (by omega : d + 2 ≤ d + 5)) (by got_up) (by got_up) (by omega) (by omega) (by omega) (by omega) ?_
  intro r h tk g
  have X9 := X9.gain1 g
  repeat none_booked
  rename Fx _ _ _ _ _ _ => X9
  refine c_fraction_of (x := x * D₂ + y * D₁) (y := D₁ * D₂) (W.keeps X9.fr.keep) ao (by got_up) (by got_up) (by got_up) (by got_up) hv hm (sg_pos hDD).symm (by omega) (by omega) (by rw [hm]; omega) (by omega) ?_
  intro p p' lt ld t h tk g
  have X9 := X9.gain4 g
  exact ret _ _ _ _ _ _ _ (X9.ret (by k_subL))

theorem c_harmonic {n : Int} {t : Tok} (W : Wd T (KK w) h) (ao : AOk A (d + 7)) (hn0 : 0 ≤ n) (hn4 : n ≤ 4)
    (ret : ∀ p t t' h' tk', Gain h h' [(p, TV [.str (S (hn n.toNat)) t, .str (S (hdn n.toNat)) t'])] → Q (.ref p) (mk s h' tk')) : CallF prog w A 175 [.int n t] Q E (mk s h tk) := by
  refine enterK (binds := [("n", .int n t)]) (ns := ["n", "h", "k"]) (gs := ["fraction_of", "signed_from_int", "range", "fraction_add", "signed_to_decimal", "to_decimal"]) W ao rfl (by conv => lhs; whnf) (by kernel_rfl) (by kernel_rfl) (by kernel_rfl) (by k_clsL) ?_
  intro A nm scope f cd L h₁ tk X ao sc gs
  have lb : ∀ x : Int, 0 ≤ x → x < 1000 → (lim x).length ≤ 11 := fun x h0 h1 => len_b h0 (by omega)
  repeat none_booked
  rename Fx _ _ _ _ _ _ => X9
  refine c_signed_from_int (W.keeps X9.fr.keep) (ao.mono (by omega : d + 2 ≤ d + 6)) (Nat.le_trans (lb _ (by omega) (by omega)) (by decide)) ?_
  intro p l t h tk g
  have X9 := X9.gain2 g
  repeat none_booked
  refine c_signed_from_int (W.keeps X9.fr.keep) (ao.mono (by omega : d + 2 ≤ d + 6)) (Nat.le_trans (lb _ (by omega) (by omega)) (by decide)) ?_
  intro p l t h tk g
  have X9 := X9.gain2 g
  refine c_fraction_of (x := 0) (y := 1) (W.keeps X9.fr.keep) (ao.mono (by omega : d + 5 ≤ d + 6)) (by got_up) (by got_up) (by got_up) (by got_up) rfl rfl rfl rfl (by decide) (Nat.le_trans (lb _ (by omega) (by omega)) (by decide)) (Nat.le_trans (lb _ (by omega) (by omega)) (by decide)) ?_
  intro p p' lt ld t h tk g
  have X9 := X9.gain4 g
  repeat none_booked
  rename Fx _ _ _ _ _ _ => X9
  rw [show sg (0 * 1) = sg (hn 0) from rfl, show (((0 : Int).natAbs : Int) / Int.gcd 0 1) = hn 0 from by decide, show (((1 : Int).natAbs : Int) / Int.gcd 0 1) = hdn 0 from by decide] at X9
  have X9 := X9.sub (own' := [(p, TV [.ref p', .ref ld]), (p', TV [.int (sg (hn 0)) t, .ref lt]), (lt, IL (lim (hn 0))), (ld, IL (lim (hdn 0)))]) (by k_subL)
  refine r_range2 (k := 2) (by omega) (by omega) (by omega) (by omega) ao.handled sc rfl
    (fun i vs own => ∃ u p p' lt ld t' tn, vs = [some (.int n tn), some (.ref p), u] ∧ own = [(p, TV [.ref p', .ref ld]), (p', TV [.int (sg (hn i)) t', .ref lt]), (lt, IL (lim (hn i))), (ld, IL (lim (hdn i)))]) X9 ⟨_, _, _, _, _, _, _, rfl, rfl⟩ ?_ ?_
  · rintro i t vs own h tk it hi ⟨u, p, p', lt, ld, t', tn, rfl, rfl⟩ X
    dsimp only [List.set] at X
    have hi4 : i < 4 := by omega
    obtain ⟨b1, b2, b3, b4⟩ := h_b i (by omega)
    repeat none_booked
    refine c_signed_from_int (W.keeps X.fr.keep) (ao.mono (by omega : d + 2 ≤ d + 6)) (Nat.le_trans (lb _ (by omega) (by omega)) (by decide)) ?_
    intro p l t h tk g
    have X := X.gain2 g
    repeat none_booked
    rename Fx _ _ _ _ _ _ => X9
    refine c_signed_from_int (W.keeps X9.fr.keep) (ao.mono (by omega : d + 2 ≤ d + 6)) (Nat.le_trans (lb _ (by omega) (by omega)) (by decide)) ?_
    intro p l t h tk g
    have X9 := X9.gain2 g
    refine c_fraction_of (x := 1) (y := 1 + (i : Int)) (W.keeps X9.fr.keep) (ao.mono (by omega : d + 5 ≤ d + 6)) (by got_up) (by got_up) (by got_up) (by got_up) rfl rfl rfl rfl (by omega) (Nat.le_trans (lb _ (by omega) (by omega)) (by decide)) (Nat.le_trans (lb _ (by omega) (by omega)) (by decide)) ?_
    intro p p' lt ld t h tk g
    have X9 := X9.gain4 g
    have g1 : (Int.gcd 1 (1 + (i : Int)) : Int) = 1 := by rw [Int.gcd_comm, Int.gcd_one_right]; rfl
    rw [g1, show sg (1 * (1 + (i : Int))) = sg 1 by rw [Int.one_mul, sg_pos (by omega)]; rfl, Int.ediv_one, Int.ediv_one, show ((1 + (i : Int)).natAbs : Int) = (i : Int) + 1 by omega] at X9
    refine c_fraction_add (x := hn i) (y := 1) (D₁ := hdn i) (D₂ := (i : Int) + 1) (W.keeps X9.fr.keep) ao (by got_up) (by got_up) (by got_up) (by got_up) (by got_up) (by got_up) (by got_up) (by got_up) rfl (by omega) rfl rfl b3 (by omega)
      (Nat.le_trans (lb _ (by omega) (by omega)) (by decide)) (Nat.le_trans (lb _ (by omega) (by omega)) (by decide)) (Nat.le_trans (lb _ (by omega) (by omega)) (by decide)) (Nat.le_trans (lb _ (by omega) (by omega)) (by decide)) ?_
    intro p p' lt ld t h tk g
    have X9 := X9.gain4 g
    obtain ⟨s1, s2, s3⟩ := h_step i hi4
    rw [s1, s2, s3] at X9
    repeat none_booked
    exact x_nil (Turn.next1 (by assumption) ⟨_, _, _, _, _, _, _, rfl, rfl⟩ (by k_subL))
  · rintro vs own h tk ⟨u, p, p', lt, ld, t', tn, rfl, rfl⟩ X
    rw [show (n + 1 - 1).toNat = n.toNat by omega] at X
    obtain ⟨b1, b2, b3, b4⟩ := h_b n.toNat (by omega)
    repeat none_booked
    refine c_signed_to_decimal (x := hn n.toNat) (W.keeps X.fr.keep) (ao.mono (by omega : d + 2 ≤ d + 6)) (by got_up) (by got_up) rfl (by omega) (Nat.le_trans (lb _ (by omega) (by omega)) (by decide)) ?_
    intro t h tk g
    have X := X.gain0 g
    repeat none_booked
    refine c_to_decimal (W.keeps X.fr.keep) (ao.mono (by omega : d + 1 ≤ d + 6)) (by got_up) (by omega) (Nat.le_trans (lb _ (by omega) (by omega)) (by decide)) ?_
    intro t h tk g
    have X := X.gain0 g
    repeat none_booked
    rename Fx _ _ _ _ _ _ => X9
    exact ret _ _ _ _ _ (X9.ret (by k_subL))
end
section
variable {prog : Program} {w : World} {A : Around} {E : Value → Shared → Prop} {s : Shared} {h : Heap} {tk d : Nat} {Q : Value → Shared → Prop}
theorem c_limbs {m : Int} {t : Tok} (W : Wd T (KK w) h) (ao : AOk A (d + 1)) (hm : 0 ≤ m) (hm' : m < 100000000000000000000000000000000)
    (ret : ∀ r h' tk', Gain h h' [(r, IL (lim m))] → Q (.ref r) (mk s h' tk')) : CallF prog w A 185 [.int m t] Q E (mk s h tk) := by
  refine enterK (binds := [("m", .int m t)]) (ns := ["m", "parts", "left", "i"]) (gs := ["range"]) W ao rfl (by conv => lhs; whnf) (by kernel_rfl) (by kernel_rfl) (by kernel_rfl) (by k_clsL) ?_
  intro A nm scope f cd L h₁ tk X ao sc gs
  repeat none_booked
  rename Fx _ _ _ _ _ _ => X9
  refine r_range1 (k := 3) (by omega) (by omega) ao.handled sc rfl
    (fun i vs own => ∃ u t' lp k T, vs = [some (.int m t), some (.ref lp), some (.int k t'), u] ∧ own = [(lp, IL T)] ∧ T ++ lim k = lim m ∧ 0 ≤ k ∧ k < 10000 ^ (8 - i)) X9 ⟨_, _, _, _, _, rfl, rfl, rfl, hm, by rw [pow8]; exact hm'⟩ ?_ ?_
  · rintro i t vs own h tk it hi ⟨u, t', lp, k, T, rfl, rfl, hT, hk, hk'⟩ X
    dsimp only [List.set] at X
    have hl := len_le_of_append hT
    have hl2 := len_b hm (by omega)
    have hi8 : i < 8 := by omega
    rw [show 8 - i = 8 - (i + 1) + 1 by omega] at hk'
    repeat none_booked
    refine split_if (fun hc => ?_) (fun hc => ?_)
    · repeat none_booked
      exact x_nil (Turn.next1 (by assumption) ⟨_, _, _, _, _, rfl, rfl, limbs_step hT hc, by omega, div_lt hk' hk⟩ (by k_subL))
    · repeat none_booked
      have hk0 : k = 0 := by omega
      exact x_nil (Turn.next1 (by assumption) ⟨_, _, _, _, _, rfl, rfl, hT, hk, by rw [hk0]; exact pow_pos _⟩ (by k_subL))
  · rintro vs own h tk ⟨u, t', lp, k, T, rfl, rfl, hT, hk, hk'⟩ X
    have hk0 : k = 0 := by
      rw [show 8 - (8 : Int).toNat = 0 by decide, Int.pow_zero] at hk'
      omega
    rw [hk0, lim_zero, List.append_nil] at hT
    subst hT
    repeat none_booked
    exact ret _ _ _ (X.ret (by k_subL))

theorem c_pair {n : Int} {t : Tok} (W : Wd T (KK w) h) (ao : AOk A (d + 2)) (hm' : (n.natAbs : Int) < 100000000000000000000000000000000)
    (ret : ∀ p l t h' tk', Gain h h' [(p, TV [.int (sg n) t, .ref l]), (l, IL (lim n.natAbs))] → Q (.ref p) (mk s h' tk')) : CallF prog w A 192 [.int n t] Q E (mk s h tk) := by
  refine enterK (binds := [("n", .int n t)]) (ns := ["n"]) (gs := ["_law_limbs"]) W ao rfl (by conv => lhs; whnf) (by kernel_rfl) (by kernel_rfl) (by kernel_rfl) (by k_clsL) ?_
  intro A nm scope f cd L h₁ tk X ao sc gs
  repeat none_booked
  refine split_if (fun hc => ?_) (fun hc => ?_)
  · have e : -n = (n.natAbs : Int) := by omega
    repeat none_booked
    rw [e]
    refine c_limbs (W.keeps X.fr.keep) ao (by omega) hm' ?_
    intro r h tk g
    have X := X.gain1 g
    repeat none_booked
    rename Fx _ _ _ _ _ _ => X9
    refine' ret _ _ _ _ _ ?g
    case g => (rw [sg_neg hc]; exact X9.ret (by k_subL))
  repeat none_booked
  refine split_if (fun h0 => ?_) (fun h0 => ?_)
  · repeat none_booked
    rename Fx _ _ _ _ _ _ => X9
    refine' ret _ _ _ _ _ ?g
    case g => (rw [h0, sg_zero, show (((0 : Int).natAbs : Nat) : Int) = 0 from rfl, lim_zero]; exact X9.ret (by k_subL))
  · have e : (n.natAbs : Int) = n := by omega
    repeat none_booked
    refine c_limbs (W.keeps X.fr.keep) ao (by omega) (by omega) ?_
    intro r h tk g
    have X := X.gain1 g
    repeat none_booked
    rename Fx _ _ _ _ _ _ => X9
    refine' ret _ _ _ _ _ ?g
    case g => (rw [sg_pos (by omega), e]; exact X9.ret (by k_subL))

theorem c_common {a b : Int} {t u : Tok} (W : Wd T (KK w) h) (ao : AOk A (d + 1)) (hb : b ≠ 0) (hg : Int.gcd a b ≤ 24)
    (ret : ∀ t h' tk', Gain h h' [] → Q (.int (Int.gcd a b) t) (mk s h' tk')) : CallF prog w A 206 [.int a t, .int b u] Q E (mk s h tk) := by
  refine enterK (binds := [("a", .int a t), ("b", .int b u)]) (ns := ["a", "b", "best", "d"]) (gs := ["range"]) W ao rfl (by conv => lhs; whnf) (by kernel_rfl) (by kernel_rfl) (by kernel_rfl) (by k_clsL) ?_
  intro A nm scope f cd L h₁ tk X ao sc gs
  repeat none_booked
  rename Fx _ _ _ _ _ _ => X9
  refine r_range2 (k := 3) (by omega) (by omega) (by omega) (by omega) ao.handled sc rfl
    (fun i vs own => ∃ u' t' best, vs = [some (.int a t), some (.int b u), some (.int best t'), u'] ∧ own = [] ∧ Best a b best i) X9 ⟨_, _, _, rfl, rfl, Best.start a b⟩ ?_ ?_
  · rintro i t vs own h tk it hi ⟨u, t', best, rfl, rfl, hB⟩ X
    dsimp only [List.set] at X
    rw [show 1 + (i : Int) = i + 1 by omega] at X
    repeat none_booked
    refine split_if (fun hc => ?_) (fun hc => ?_)
    · repeat none_booked
      refine split_if (fun hc' => ?_) (fun hc' => ?_)
      · repeat none_booked
        exact x_nil (Turn.next1 (by assumption) ⟨_, _, _, rfl, rfl, hB.yes hc hc'⟩ (by k_subL))
      · repeat none_booked
        exact x_nil (Turn.next1 (by assumption) ⟨_, _, _, rfl, rfl, hB.no fun z => hc' z.2⟩ (by k_subL))
    · repeat none_booked
      exact x_nil (Turn.next1 (by assumption) ⟨_, _, _, rfl, rfl, hB.no fun z => hc z.1⟩ (by k_subL))
  · rintro vs own h tk ⟨u, t', best, rfl, rfl, hB⟩ X
    repeat none_booked
    rw [hB.gcd hb (by have : (25 - 1 : Int).toNat = 24 := by decide
                      omega)]
    exact ret _ _ _ (X.ret (by k_subL))

abbrev edgesL : List Int := [0, 1, 9, 10, 100, 999, 5000, 9999]
abbrev topsL : List Int := [0, 1, 2, 9, 35, 9999, 10000, 59994]
abbrev scalesL : List Int := [1, 2, 9999, 10000, 10001]
theorem edges_b : ∀ k, 0 ≤ edgesL.getD k 0 ∧ edgesL.getD k 0 ≤ 9999 := by
  intro k
  by_cases h : k < 8
  · have : ∀ k, k < 8 → 0 ≤ edgesL.getD k 0 ∧ edgesL.getD k 0 ≤ 9999 := by decide
    exact this k h
  · rw [List.getD_eq_getElem?_getD, List.getElem?_eq_none (by show 8 ≤ k; omega)]; decide
theorem edges_has (W : Wd T (KK w) h) : Has h 176 (TI edgesL) :=
  ⟨_, W.kx 176 (tob [.int 0 414, .int 1 415, .int 9 416, .int 10 417, .int 100 418, .int 999 419, .int 5000 420, .int 9999 421] 0) (by kernel_rfl), _, _, by repeat constructor, rfl⟩
theorem tops_has (W : Wd T (KK w) h) : Has h 177 (TI topsL) :=
  ⟨_, W.kx 177 (tob [.int 0 423, .int 1 424, .int 2 425, .int 9 426, .int 35 427, .int 9999 428, .int 10000 429, .int 59994 430] 0) (by kernel_rfl), _, _, by repeat constructor, rfl⟩
theorem scales_has (W : Wd T (KK w) h) : Has h 178 (TI scalesL) :=
  ⟨_, W.kx 178 (tob [.int 1 432, .int 2 433, .int 9999 434, .int 10000 435, .int 10001 436] 0) (by kernel_rfl), _, _, by repeat constructor, rfl⟩
theorem c_value {a b c e : Int} {t₁ t₂ t₃ t₄ : Tok} (W : Wd T (KK w) h) (ao : AOk A (d + 1))
    (ret : ∀ v t h' tk', Gain h h' [] → (v.natAbs : Int) < 1000000000000 → Q (.int v t) (mk s h' tk')) : CallF prog w A 213 [.int a t₁, .int b t₂, .int c t₃, .int e t₄] Q E (mk s h tk) := by
  refine enterK (binds := [("low", .int a t₁), ("mid", .int b t₂), ("top", .int c t₃), ("sign", .int e t₄)]) (ns := ["low", "mid", "top", "sign", "m"]) (gs := ["_law_edges"]) W ao rfl (by conv => lhs; whnf) (by kernel_rfl) (by kernel_rfl) (by kernel_rfl) (by k_clsL) ?_
  intro A nm scope f cd L h₁ tk X ao sc gs
  have hE := edges_has W
  have l8 : edgesL.length = 8 := rfl
  have b1 := edges_b (a % 8).toNat
  have b2 := edges_b (b % 8).toNat
  have b3 := edges_b (c % 8).toNat
  repeat none_booked
  refine r_tupI (by got_up) (by omega) (by omega) (by omega) ?_
  intro t
  repeat none_booked
  refine r_tupI (by got_up) (by omega) (by omega) (by omega) ?_
  intro t
  repeat none_booked
  refine r_tupI (by got_up) (by omega) (by omega) (by omega) ?_
  intro t
  repeat none_booked
  refine split_if (fun hc => ?_) (fun hc => ?_)
  · repeat none_booked
    rename Fx _ _ _ _ _ _ => X9
    exact ret _ _ _ _ (X9.ret (by k_subL)) (by omega)
  · repeat none_booked
    rename Fx _ _ _ _ _ _ => X9
    exact ret _ _ _ _ (X9.ret (by k_subL)) (by omega)
end
section
variable {prog : Program} {w : World} {A : Around} {E : Value → Shared → Prop} {s : Shared} {h : Heap} {tk d : Nat} {Q : Value → Shared → Prop}
theorem h_ok : ∀ k, k ≤ 4 → PyData.strOk (S (hn k)) = true ∧ PyData.strOk (S (hdn k)) = true := by decide +kernel
theorem c_series {n m e : Int} {t₁ t₂ t₃ : Tok} (W : Wd T (KK w) h) (ao : AOk A (d + 5)) (hn0 : 0 ≤ n) (hn1 : n ≤ 18) (hm0 : 0 ≤ m) (hm1 : m ≤ 47) (he0 : 0 ≤ e) (he1 : e < 70)
    (ret : ∀ h' tk', Gain h h' [] → Q (.bool true) (mk s h' tk')) : CallF prog w A 220 [.int n t₁, .int m t₂, .int e t₃] Q E (mk s h tk) := by
  refine enterK (binds := [("n", .int n t₁), ("m", .int m t₂), ("e", .int e t₃)]) (ns := ["n", "m", "e", "product", "k", "older", "newer", "newest"]) (gs := ["range", "factorial_decimal", "str", "fibonacci_decimal", "power_of_two_decimal"]) W ao rfl (by conv => lhs; whnf) (by kernel_rfl) (by kernel_rfl) (by kernel_rfl) (by k_clsL) ?_
  intro A nm scope f cd L h₁ tk X ao sc gs
  have p2 : (2 : Int) ^ e.toNat ≤ 2 ^ 70 ∧ 1 ≤ (2 : Int) ^ e.toNat := by
    have : ∀ k, k < 70 → (2 : Int) ^ k ≤ 2 ^ 70 := by decide +kernel
    exact ⟨this _ (by omega), pow_ge1 (by decide) _⟩
  have p70 : (2 : Int) ^ 70 < 10000000000000000000000000 := by decide
  repeat none_booked
  rename Fx _ _ _ _ _ _ => X9
  refine r_range2 (k := 4) (by omega) (by omega) (by omega) (by omega) ao.handled sc rfl
    (fun i vs own => ∃ u t', vs = [some (.int n t₁), some (.int m t₂), some (.int e t₃), some (.int (fct (min (i + 1) (fm1 n))) t'), u, none, none, none] ∧ own = []) X9 ⟨_, _, by
      rw [show min (0 + 1) (fm1 n) = 1 by unfold fm1; omega, show fct 1 = 1 from rfl], rfl⟩ ?_ ?_
  · rintro i t vs own h tk it hi ⟨u, t', rfl, rfl⟩ X
    dsimp only [List.set] at X
    have hi' : i < 17 := by omega
    repeat none_booked
    refine split_if (fun hc => ?_) (fun hc => ?_)
    · repeat none_booked
      rename Fx _ _ _ _ _ _ => X9
      rw [pr_yes hc] at X9
      exact x_nil (Turn.next1 (by assumption) ⟨_, _, rfl, rfl⟩ (by k_subL))
    · rw [pr_no hc] at X
      repeat none_booked
      exact x_nil (Turn.next1 (by assumption) ⟨_, _, rfl, rfl⟩ (by k_subL))
  rintro vs own h tk ⟨u, t', rfl, rfl⟩ X
  rw [show (19 - 2 : Int).toNat = 17 by decide, fct_fm1 hn0 hn1] at X
  obtain ⟨fb1, fb2⟩ := fct_b n.toNat (by omega)
  repeat none_booked
  refine c_factorial (W.keeps X.fr.keep) (ao.mono (by omega : d + 2 ≤ d + 4)) hn0 hn1 ?_
  intro t h tk g
  have X := X.gain0 g
  repeat none_booked
  refine split_if' (fun hc => absurd hc (by simp)) (fun _ => ?_)
  repeat none_booked
  rename Fx _ _ _ _ _ _ => X9
  refine r_range1 (k := 4) (by omega) (by omega) ao.handled sc rfl
    (fun i vs own => ∃ u₁ u u' t' t'', vs = [some (.int n t₁), some (.int m t₂), some (.int e t₃), u₁, u, some (.int (fib (min i m.toNat)) t'), some (.int (fib (min i m.toNat + 1)) t''), u'] ∧ own = []) X9 ⟨_, _, _, _, _, by
      rw [show min 0 m.toNat = 0 by omega, show fib 0 = 0 from rfl, show fib (0 + 1) = 1 from rfl], rfl⟩ ?_ ?_
  · rintro i t vs own h tk it hi ⟨u₁, u, u', t', t'', rfl, rfl⟩ X
    dsimp only [List.set] at X
    repeat none_booked
    refine split_if (fun hc => ?_) (fun hc => ?_)
    · repeat none_booked
      rename Fx _ _ _ _ _ _ => X9
      rw [show fib (min i m.toNat) + fib (min i m.toNat + 1) = fib (min i m.toNat + 1 + 1) from rfl, show min i m.toNat + 1 = min (i + 1) m.toNat by omega] at X9
      exact x_nil (Turn.next1 (by assumption) ⟨_, _, _, _, _, rfl, rfl⟩ (by k_subL))
    · rw [show min i m.toNat = min (i + 1) m.toNat by omega] at X
      repeat none_booked
      exact x_nil (Turn.next1 (by assumption) ⟨_, _, _, _, _, rfl, rfl⟩ (by k_subL))
  rintro vs own h tk ⟨u₁, u, u', t', t'', rfl, rfl⟩ X
  rw [show min (47 : Int).toNat m.toNat = m.toNat by omega] at X
  obtain ⟨gb1, gb2⟩ := fib_b m.toNat (by omega)
  repeat none_booked
  refine c_fibonacci (W.keeps X.fr.keep) (ao.mono (by omega : d + 2 ≤ d + 4)) hm0 hm1 ?_
  intro t h tk g
  have X := X.gain0 g
  repeat none_booked
  refine split_if' (fun hc => absurd hc (by simp)) (fun _ => ?_)
  repeat none_booked
  refine c_power_of_two (W.keeps X.fr.keep) ao he0 he1 ?_
  intro t h tk g
  have X := X.gain0 g
  repeat none_booked
  refine split_if' (fun hc => absurd hc (by simp)) (fun _ => ?_)
  repeat none_booked
  exact ret _ _ (X.ret (by k_subL))

theorem c_lharmonic {n : Int} {t₁ : Tok} (W : Wd T (KK w) h) (ao : AOk A (d + 8)) (hn0 : 0 ≤ n) (hn1 : n ≤ 4)
    (ret : ∀ h' tk', Gain h h' [] → Q (.bool true) (mk s h' tk')) : CallF prog w A 227 [.int n t₁] Q E (mk s h tk) := by
  refine enterK (binds := [("n", .int n t₁)]) (ns := ["n", "top", "under", "k", "g", "got"]) (gs := ["range", "_law_common", "harmonic_decimal", "type", "tuple", "str"]) W ao rfl (by conv => lhs; whnf) (by kernel_rfl) (by kernel_rfl) (by kernel_rfl) (by k_clsL) ?_
  intro A nm scope f cd L h₁ tk X ao sc gs
  repeat none_booked
  rename Fx _ _ _ _ _ _ => X9
  refine r_range2 (k := 3) (by omega) (by omega) (by omega) (by omega) ao.handled sc rfl
    (fun i vs own => ∃ u t' t'', vs = [some (.int n t₁), some (.int (ht (min i n.toNat)) t'), some (.int (hu (min i n.toNat)) t''), u, none, none] ∧ own = []) X9 ⟨_, _, _, by
      rw [show min 0 n.toNat = 0 by omega, show ht 0 = 0 from rfl, show hu 0 = 1 from rfl], rfl⟩ ?_ ?_
  · rintro i t vs own h tk it hi ⟨u, t', t'', rfl, rfl⟩ X
    dsimp only [List.set] at X
    have hi' : i < 4 := by omega
    repeat none_booked
    refine split_if (fun hc => ?_) (fun hc => ?_)
    · obtain ⟨s1, s2⟩ := ht_step i hi'
      rw [show min i n.toNat = i by omega] at X
      repeat none_booked
      rename Fx _ _ _ _ _ _ => X9
      rw [s1, s2, show i + 1 = min (i + 1) n.toNat by omega] at X9
      exact x_nil (Turn.next1 (by assumption) ⟨_, _, _, rfl, rfl⟩ (by k_subL))
    · rw [show min i n.toNat = min (i + 1) n.toNat by omega] at X
      repeat none_booked
      exact x_nil (Turn.next1 (by assumption) ⟨_, _, _, rfl, rfl⟩ (by k_subL))
  rintro vs own h tk ⟨u, t', t'', rfl, rfl⟩ X
  rw [show min (5 - 1 : Int).toNat n.toNat = n.toNat by omega] at X
  obtain ⟨b1, b2, b3, b4, b5, b6, b7, b8⟩ := ht_b n.toNat (by omega)
  obtain ⟨c1, c2, c3, c4⟩ := h_b n.toNat (by omega)
  obtain ⟨o1, o2⟩ := h_ok n.toNat (by omega)
  repeat none_booked
  refine c_common (W.keeps X.fr.keep) (ao.mono (by omega : d + 1 ≤ d + 7)) (by omega) b5 ?_
  intro t h tk g
  have X := X.gain0 g
  repeat none_booked
  rename Fx _ _ _ _ _ _ => X9
  refine c_harmonic (W.keeps X9.fr.keep) ao hn0 hn1 ?_
  intro p t t' h tk g
  have X9 := X9.gain1 g
  repeat none_booked
  rename Fx _ _ _ _ _ _ => X9
  rw [b7, b8] at X9
  refine r_neD ao (Rd.tv (by got_up) Rd.str Rd.str) (Rd.tv (by got_up) Rd.str Rd.str) (sh_strs o1 o2) ?_
  repeat none_booked
  exact ret _ _ (X9.ret (by k_subL))
end
section
variable {prog : Program} {w : World} {A : Around} {E : Value → Shared → Prop} {s : Shared} {h : Heap} {tk d : Nat} {Q : Value → Shared → Prop}
theorem c_signed_ok {p₁ l₁ : Addr} {x sx mx : Int} {t₁ t₂ : Tok} {ps : Array Value} (W : Wd T (KK w) h) (wg : Wg h) (B : Based h h 198 194 ps) (G : AllBare s.gens) (ao : AOk A (d + 4)) (hp : Has h p₁ (TV [.int sx t₁, .ref l₁])) (ha : Has h l₁ (IL (lim mx)))
    (hsx : sx = sg x) (hmx : mx = x.natAbs) (hz : (x.natAbs : Int) < 100000000000000000000000000000000)
    (ret : ∀ s' g more h' tk', AllBare s'.gens → s'.os = s.os → Based h g 198 194 (ps ++ more) → Gain g h' [] → Q (.bool true) (mk s' h' tk')) : CallF prog w A 199 [.ref p₁, .int x t₂] Q E (mk s h tk) := by
  refine enterKc (binds := [("got", .ref p₁), ("n", .int x t₂)]) (ns := ["got", "n"]) (gs := ["type", "tuple", "_law_pair", "int", "all", "signed_to_decimal", "str"]) W ao rfl (by conv => lhs; whnf) (by kernel_rfl) (by kernel_rfl) (by kernel_rfl) (by k_clsL) ?_
  intro A nm scope f cd L h₁ tk hcd X ao sc gs
  subst hsx hmx
  have hlen := len_b (x := (x.natAbs : Int)) (by omega) (by omega)
  repeat none_booked
  refine c_pair (W.keeps X.fr.keep) (ao.mono (by omega : d + 2 ≤ d + 3)) hz ?_
  intro p l t h tk g
  have X := X.gain2 g
  refine r_neD ao (Rd.pair (by got_up) (by got_up)) (Rd.pair (by got_up) (by got_up)) (sh_pair _ _) ?_
  repeat none_booked
  obtain ⟨mg, bm, ob, M⟩ := wg
  refine r_allgen X W B M hcd G ao (l := l₁) (xs := lim x.natAbs) (by got_up) (by repeat (first | with_reducible exact List.mem_cons_self | with_reducible apply List.mem_cons_of_mem)) (by repeat (first | with_reducible exact List.mem_cons_self | with_reducible apply List.mem_cons_of_mem)) ⟨rfl, by decide, by decide, by decide, by decide, by decide, rfl⟩ (cl := []) (by with_unfolding_all rfl) (fun _ => by with_unfolding_all rfl) ?_ ?_
  · repeat none_booked
    exact ⟨rfl, _, rfl⟩
  intro s' g more h tk G' hos B' X
  have W' := W.based B' (by kernel_rfl)
  have hp' := hp.tvB B'
  have ha' := ha.ilB B'
  clear W hp ha
  have W := W'
  repeat none_booked
  refine c_signed_to_decimal (x := x) (W.keeps X.fr.keep) (ao.mono (by omega : d + 2 ≤ d + 3)) (by got_up) (by got_up) rfl rfl (by omega) ?_
  intro t h tk g
  have X := X.gain0 g
  repeat none_booked
  refine split_if' (fun hc => absurd hc (by simp)) (fun _ => ?_)
  repeat none_booked
  exact ret _ _ _ _ _ G' hos B' (X.ret (by k_subL))
end
section
variable {prog : Program} {w : World} {A : Around} {E : Value → Shared → Prop} {s : Shared} {h : Heap} {tk d : Nat} {Q : Value → Shared → Prop} {fs : List Env}
theorem e_sub {l₁ l₂ : Addr} {x y : Int} (W : Wd T (KK w) h) (ao : AOk A (d + 2)) (fr : Frs A fs h) (ha : Has h l₁ (IL (lim x))) (hb : Has h l₂ (IL (lim y))) (hx : 0 ≤ x) (hy : 0 ≤ y) (hlt : x < y) (hz : (lim x).length ≤ 1000) (hz' : (lim y).length ≤ 1000)
    (thr : ∀ a h' tk', Thrown "ValueError" fs h h' a → E (.ref a) (mk s h' tk')) : CallF prog w A 49 [.ref l₁, .ref l₂] Q E (mk s h tk) := by
  refine enterE (binds := [("a", .ref l₁), ("b", .ref l₂)]) (ns := ["a", "b", "rest", "borrow", "i", "t"]) (gs := ["compare", "ValueError", "range", "len", "BASE", "trimmed"]) W ao fr thr rfl (by conv => lhs; whnf) (by kernel_rfl) (by kernel_rfl) (by kernel_rfl) (by k_clsL) ?_
  intro A nm scope f cd L h₁ tk E' X ao sc gs th
  repeat none_booked
  refine c_compare (W.keeps X.fr.keep) ao (by got_up) (by got_up) hx hy (by omega) (by omega) ?_
  intro t h tk g
  have X := X.gain0 g
  have hc : cmpI x y < 0 := by unfold cmpI; rw [if_pos hlt]; decide
  repeat none_booked
  refine split_if (fun _ => ?_) (fun hn => absurd hc hn)
  repeat none_booked
  exact x_raise PySem.F.excCall_ValueError PySem.F.excRaise_ValueError X W sc gs (by repeat (first | with_reducible exact List.mem_cons_self | with_reducible apply List.mem_cons_of_mem)) (by repeat (first | with_reducible exact List.mem_cons_self | with_reducible apply List.mem_cons_of_mem)) ao.handled fun h' tk e as hx => th e _ h' tk _ _ as X hx
theorem e_divmod {l₁ l₂ : Addr} {x y : Int} (W : Wd T (KK w) h) (ao : AOk A (d + 1)) (fr : Frs A fs h) (ha : Has h l₁ (IL (lim x))) (hb : Has h l₂ (IL (lim y))) (hy : y = 0)
    (thr : ∀ a h' tk', Thrown "ZeroDivisionError" fs h h' a → E (.ref a) (mk s h' tk')) : CallF prog w A 77 [.ref l₁, .ref l₂] Q E (mk s h tk) := by
  refine enterE (binds := [("a", .ref l₁), ("b", .ref l₂)]) (ns := ["a", "b", "q", "r", "i", "d"]) (gs := ["len", "ZeroDivisionError", "range", "trimmed", "trial_digit", "sub", "mul_small"]) W ao fr thr rfl (by conv => lhs; whnf) (by kernel_rfl) (by kernel_rfl) (by kernel_rfl) (by k_clsL) ?_
  intro A nm scope f cd L h₁ tk E' X ao sc gs th
  subst hy
  have hl0 : (lim 0).length = 0 := by rw [lim_zero]; rfl
  repeat none_booked
  refine split_if (fun _ => ?_) (fun hn => (hn (by omega)).elim)
  repeat none_booked
  exact x_raise PySem.F.excCall_ZeroDivisionError PySem.F.excRaise_ZeroDivisionError X W sc gs (by repeat (first | with_reducible exact List.mem_cons_self | with_reducible apply List.mem_cons_of_mem)) (by repeat (first | with_reducible exact List.mem_cons_self | with_reducible apply List.mem_cons_of_mem)) ao.handled fun h' tk e as hx => th e _ h' tk _ _ as X hx
theorem e_fraction_of {p₁ p₂ l₂ : Addr} {sy : Int} {t₂ : Tok} (W : Wd T (KK w) h) (ao : AOk A (d + 1)) (fr : Frs A fs h) (hp' : Has h p₂ (TV [.int sy t₂, .ref l₂])) (h0 : sy = 0)
    (thr : ∀ a h' tk', Thrown "ZeroDivisionError" fs h h' a → E (.ref a) (mk s h' tk')) : CallF prog w A 140 [.ref p₁, .ref p₂] Q E (mk s h tk) := by
  refine enterE (binds := [("n", .ref p₁), ("d", .ref p₂)]) (ns := ["n", "d", "g", "top"]) (gs := ["gcd_nat", "divmod_long", "ZeroDivisionError"]) W ao fr thr rfl (by conv => lhs; whnf) (by kernel_rfl) (by kernel_rfl) (by kernel_rfl) (by k_clsL) ?_
  intro A nm scope f cd L h₁ tk E' X ao sc gs th
  repeat none_booked
  refine split_if (fun _ => ?_) (fun hn => absurd h0 hn)
  repeat none_booked
  exact x_raise PySem.F.excCall_ZeroDivisionError PySem.F.excRaise_ZeroDivisionError X W sc gs (by repeat (first | with_reducible exact List.mem_cons_self | with_reducible apply List.mem_cons_of_mem)) (by repeat (first | with_reducible exact List.mem_cons_self | with_reducible apply List.mem_cons_of_mem)) ao.handled fun h' tk e as hx => th e _ h' tk _ _ as X hx
end
section
variable {prog : Program} {w : World} {A : Around} {E : Value → Shared → Prop} {s : Shared} {h hb : Heap} {tk d : Nat} {Q : Value → Shared → Prop} {Ll : Addr} {envl : Env}
theorem natAbs_mul_lt {x y : Int} (hx : (x.natAbs : Int) < 1000000000000) (hy : (y.natAbs : Int) < 1000000000000) : ((x * y).natAbs : Int) < 1000000000000000000000000 := by
  rw [← natAbs_mulI]
  calc (x.natAbs : Int) * y.natAbs ≤ 999999999999 * 999999999999 := Int.mul_le_mul (by omega) (by omega) (by omega) (by decide)
    _ < _ := by decide
theorem c_ledger {x y : Int} {t₁ t₂ : Tok} (a : Am T (KK w) hb Ll h) (G : AllBare s.gens) (ao : AOk A (d + 6)) (hA : A.frames = some [envl]) (hk : envl.scope.kind ≠ .module) (hf : envl.frame = some Ll)
    (bx : (x.natAbs : Int) < 1000000000000) (by_ : (y.natAbs : Int) < 1000000000000)
    (ret : ∀ s' h' tk', AllBare s'.gens → s'.os = s.os → OldK hb h' → Q (.bool true) (mk s' h' tk')) : CallF prog w A 241 [.int x t₁, .int y t₂] Q E (mk s h tk) := by
  have W := a.W
  refine enterF (binds := [("x", .int x t₁), ("y", .int y t₂)]) (ns := ["x", "y", "sx", "sy", "want", "order", "left", "refused"]) (gs := ["signed_from_int", "_law_signed_ok", "signed_add", "signed_mul", "abs", "compare", "type", "int", "sub", "ValueError", "_law_limbs"]) W ao hA rfl (by conv => lhs; whnf) (by kernel_rfl) (by kernel_rfl) (by kernel_rfl) (by k_clsL) ?_
  intro A nm scope f cd L h₁ tk hA X ao sc gs
  have hos : s.os = s.os := rfl
  have lx := len_b (x := (x.natAbs : Int)) (by omega) (by omega)
  have ly := len_b (x := (y.natAbs : Int)) (by omega) (by omega)
  have hm := natAbs_mul_lt bx by_
  have eA : ((x + y).natAbs : Int) ≤ x.natAbs + y.natAbs := by omega
  repeat none_booked
  refine c_signed_from_int (W.keeps X.fr.keep) (ao.mono (by omega : d + 2 ≤ d + 5)) (by omega) ?_
  intro px lxa tx h tk g
  have X := X.gain2 g
  repeat none_booked
  rename Fx _ _ _ _ _ _ => X9
  refine c_signed_from_int (W.keeps X9.fr.keep) (ao.mono (by omega : d + 2 ≤ d + 5)) (by omega) ?_
  intro py lya ty h tk g
  have X9 := X9.gain2 g
  repeat none_booked
  rename Fx _ _ _ _ _ _ => X9
  refine c_signed_add (x := x) (y := y) (W.keeps X9.fr.keep) (ao.mono (by omega : d + 3 ≤ d + 5)) (by got_up) (by got_up) (by got_up) (by got_up) rfl rfl rfl rfl (by omega) (by omega) ?_
  intro pz lza tz vz mz h tk g hvz hmz
  have X9 := X9.gain2 g
  repeat none_booked
  obtain ⟨ps, tb⟩ := a.tab
  rename Fx _ _ _ _ _ _ => X9
  refine c_signed_ok (x := x + y) (W.keeps X9.fr.keep) (a.wg.keeps X9.fr.keep) (Based.start (tb.1.keeps X9.fr.keep) (tb.2.keeps X9.fr.keep) (by decide)) G (ao.mono (by omega : d + 4 ≤ d + 5)) (by got_up) (by got_up) hvz hmz (by omega) ?_
  intro s' g more h tk G' hos' B' gn
  obtain ⟨g₀, a', X9⟩ := a.grow X9 tb B' gn
  dsimp only [List.nil_append] at X9
  clear a W G tb B' gn
  have a := a'
  have W := a.W
  have G := G'
  have hos := hos'.trans hos
  clear a' G' hos'
  repeat none_booked
  rename Fx _ _ _ _ _ _ => X9
  refine c_signed_mul (x := x) (y := y) (W.keeps X9.fr.keep) (ao.mono (by omega : d + 3 ≤ d + 5)) (by got_up) (by got_up) (by got_up) (by got_up) rfl rfl rfl rfl (by omega) (by omega) ?_
  intro pm lm tm h tk g
  have X9 := X9.gain2 g
  repeat none_booked
  obtain ⟨ps, tb⟩ := a.tab
  rename Fx _ _ _ _ _ _ => X9
  refine c_signed_ok (x := x * y) (W.keeps X9.fr.keep) (a.wg.keeps X9.fr.keep) (Based.start (tb.1.keeps X9.fr.keep) (tb.2.keeps X9.fr.keep) (by decide)) G (ao.mono (by omega : d + 4 ≤ d + 5)) (by got_up) (by got_up) rfl rfl (by omega) ?_
  intro s' g more h tk G' hos' B' gn
  obtain ⟨g₀, a', X9⟩ := a.grow X9 tb B' gn
  dsimp only [List.nil_append] at X9
  clear a W G tb B' gn
  have a := a'
  have W := a.W
  have G := G'
  have hos := hos'.trans hos
  clear a' G' hos'
  repeat none_booked
  refine split_if (fun hlt => ?_) (fun hlt => ?_)
  · have hw : cmpI x.natAbs y.natAbs = -1 := by unfold cmpI; rw [if_pos hlt]
    repeat none_booked
    refine split_if (fun hgt => by omega) (fun _ => ?_)
    repeat none_booked
    rename Fx _ _ _ _ _ _ => X9
    refine c_compare (W.keeps X9.fr.keep) (ao.mono (by omega : d + 1 ≤ d + 5)) (by got_up) (by got_up) (by omega) (by omega) (by omega) (by omega) ?_
    intro tc h tk g
    have X9 := X9.gain0 g
    repeat none_booked
    refine split_if (fun hn => absurd hw hn) (fun _ => ?_)
    repeat none_booked
    rename Fx _ _ _ _ _ _ => X9
    refine x_tryBad (X := "ValueError") PySem.F.isExc_ValueError PySem.F.notTuple_ValueError (by rw [isSubtype_type]; kernel_rfl) a sc gs (by repeat (first | with_reducible exact List.mem_cons_self | with_reducible apply List.mem_cons_of_mem)) (by repeat (first | with_reducible exact List.mem_cons_self | with_reducible apply List.mem_cons_of_mem)) hA hf ?_
    repeat none_booked
    refine e_sub (W.keeps X9.fr.keep) (ao.mono (by omega : d + 2 ≤ d + 5)) (frs_here X9 a.fr hA sc hk hf) (by got_up) (by got_up) (by omega) (by omega) (by omega) (by omega) (by omega) ?_
    intro ea h' tk' th
    refine ⟨ea, _, h', tk', _, _, rfl, rfl, X9, th, ?_⟩
    intro g h tk a' X9
    clear a W
    have a := a'
    have W := a.W
    clear a'
    repeat none_booked
    refine x_nil ⟨rfl, ?_⟩
    repeat none_booked
    refine split_if (fun _ => ?_) (fun hn => absurd rfl hn)
    repeat none_booked
    obtain ⟨ps, tb⟩ := a.tab
    rename Fx _ _ _ _ _ _ => X9
    refine c_signed_ok (x := x) (W.keeps X9.fr.keep) (a.wg.keeps X9.fr.keep) (Based.start (tb.1.keeps X9.fr.keep) (tb.2.keeps X9.fr.keep) (by decide)) G (ao.mono (by omega : d + 4 ≤ d + 5)) (by got_up) (by got_up) rfl rfl (by omega) ?_
    intro s' g more h tk G' hos' B' gn
    obtain ⟨g₀, a', X9⟩ := a.grow X9 tb B' gn
    dsimp only [List.nil_append] at X9
    clear a W G tb B' gn
    have a := a'
    have W := a.W
    have G := G'
    have hos := hos'.trans hos
    clear a' G' hos'
    repeat none_booked
    obtain ⟨ps, tb⟩ := a.tab
    rename Fx _ _ _ _ _ _ => X9
    refine c_signed_ok (x := y) (W.keeps X9.fr.keep) (a.wg.keeps X9.fr.keep) (Based.start (tb.1.keeps X9.fr.keep) (tb.2.keeps X9.fr.keep) (by decide)) G (ao.mono (by omega : d + 4 ≤ d + 5)) (by got_up) (by got_up) rfl rfl (by omega) ?_
    intro s' g more h tk G' hos' B' gn
    obtain ⟨g₀, a', X9⟩ := a.grow X9 tb B' gn
    dsimp only [List.nil_append] at X9
    clear a W G tb B' gn
    have a := a'
    have W := a.W
    have G := G'
    have hos := hos'.trans hos
    clear a' G' hos'
    repeat none_booked
    rename Fx _ _ _ _ _ _ => X9
    exact ret _ _ _ G hos (a.old.step_keeps X9.fr.keep)
  · repeat none_booked
    refine split_if (fun hgt => ?_) (fun hgt => ?_)
    · have hw : cmpI x.natAbs y.natAbs = 1 := by unfold cmpI; rw [if_neg hlt, if_neg (by omega)]
      repeat none_booked
      rename Fx _ _ _ _ _ _ => X9
      refine c_compare (W.keeps X9.fr.keep) (ao.mono (by omega : d + 1 ≤ d + 5)) (by got_up) (by got_up) (by omega) (by omega) (by omega) (by omega) ?_
      intro tc h tk g
      have X9 := X9.gain0 g
      repeat none_booked
      refine split_if (fun hn => absurd hw hn) (fun _ => ?_)
      repeat none_booked
      rename Fx _ _ _ _ _ _ => X9
      refine x_tryOk ?_
      repeat none_booked
      refine c_sub (W.keeps X9.fr.keep) (ao.mono (by omega : d + 2 ≤ d + 5)) (by got_up) (by got_up) (by omega) (by omega) (by omega) (by omega) ?_
      intro r h tk g
      have X9 := X9.gain1 g
      repeat none_booked
      refine x_nil ⟨rfl, ?_⟩
      repeat none_booked
      refine split_if (fun hn => absurd hn (by decide)) (fun _ => ?_)
      repeat none_booked
      rename Fx _ _ _ _ _ _ => X9
      refine c_limbs (W.keeps X9.fr.keep) (ao.mono (by omega : d + 1 ≤ d + 5)) (by omega) (by omega) ?_
      intro r h tk g
      have X9 := X9.gain1 g
      refine r_neD ao (Rd.il (by got_up)) (Rd.il (by got_up)) (ke_shaped_ints _) ?_
      repeat none_booked
      obtain ⟨ps, tb⟩ := a.tab
      rename Fx _ _ _ _ _ _ => X9
      refine c_signed_ok (x := x) (W.keeps X9.fr.keep) (a.wg.keeps X9.fr.keep) (Based.start (tb.1.keeps X9.fr.keep) (tb.2.keeps X9.fr.keep) (by decide)) G (ao.mono (by omega : d + 4 ≤ d + 5)) (by got_up) (by got_up) rfl rfl (by omega) ?_
      intro s' g more h tk G' hos' B' gn
      obtain ⟨g₀, a', X9⟩ := a.grow X9 tb B' gn
      dsimp only [List.nil_append] at X9
      clear a W G tb B' gn
      have a := a'
      have W := a.W
      have G := G'
      have hos := hos'.trans hos
      clear a' G' hos'
      repeat none_booked
      obtain ⟨ps, tb⟩ := a.tab
      rename Fx _ _ _ _ _ _ => X9
      refine c_signed_ok (x := y) (W.keeps X9.fr.keep) (a.wg.keeps X9.fr.keep) (Based.start (tb.1.keeps X9.fr.keep) (tb.2.keeps X9.fr.keep) (by decide)) G (ao.mono (by omega : d + 4 ≤ d + 5)) (by got_up) (by got_up) rfl rfl (by omega) ?_
      intro s' g more h tk G' hos' B' gn
      obtain ⟨g₀, a', X9⟩ := a.grow X9 tb B' gn
      dsimp only [List.nil_append] at X9
      clear a W G tb B' gn
      have a := a'
      have W := a.W
      have G := G'
      have hos := hos'.trans hos
      clear a' G' hos'
      repeat none_booked
      rename Fx _ _ _ _ _ _ => X9
      exact ret _ _ _ G hos (a.old.step_keeps X9.fr.keep)
    · have hw : cmpI x.natAbs y.natAbs = 0 := by unfold cmpI; rw [if_neg hlt, if_pos (by omega)]
      repeat none_booked
      rename Fx _ _ _ _ _ _ => X9
      refine c_compare (W.keeps X9.fr.keep) (ao.mono (by omega : d + 1 ≤ d + 5)) (by got_up) (by got_up) (by omega) (by omega) (by omega) (by omega) ?_
      intro tc h tk g
      have X9 := X9.gain0 g
      repeat none_booked
      refine split_if (fun hn => absurd hw hn) (fun _ => ?_)
      repeat none_booked
      rename Fx _ _ _ _ _ _ => X9
      refine x_tryOk ?_
      repeat none_booked
      refine c_sub (W.keeps X9.fr.keep) (ao.mono (by omega : d + 2 ≤ d + 5)) (by got_up) (by got_up) (by omega) (by omega) (by omega) (by omega) ?_
      intro r h tk g
      have X9 := X9.gain1 g
      repeat none_booked
      refine x_nil ⟨rfl, ?_⟩
      repeat none_booked
      refine split_if (fun hn => absurd hn (by decide)) (fun _ => ?_)
      repeat none_booked
      rename Fx _ _ _ _ _ _ => X9
      refine c_limbs (W.keeps X9.fr.keep) (ao.mono (by omega : d + 1 ≤ d + 5)) (by omega) (by omega) ?_
      intro r h tk g
      have X9 := X9.gain1 g
      refine r_neD ao (Rd.il (by got_up)) (Rd.il (by got_up)) (ke_shaped_ints _) ?_
      repeat none_booked
      obtain ⟨ps, tb⟩ := a.tab
      rename Fx _ _ _ _ _ _ => X9
      refine c_signed_ok (x := x) (W.keeps X9.fr.keep) (a.wg.keeps X9.fr.keep) (Based.start (tb.1.keeps X9.fr.keep) (tb.2.keeps X9.fr.keep) (by decide)) G (ao.mono (by omega : d + 4 ≤ d + 5)) (by got_up) (by got_up) rfl rfl (by omega) ?_
      intro s' g more h tk G' hos' B' gn
      obtain ⟨g₀, a', X9⟩ := a.grow X9 tb B' gn
      dsimp only [List.nil_append] at X9
      clear a W G tb B' gn
      have a := a'
      have W := a.W
      have G := G'
      have hos := hos'.trans hos
      clear a' G' hos'
      repeat none_booked
      obtain ⟨ps, tb⟩ := a.tab
      rename Fx _ _ _ _ _ _ => X9
      refine c_signed_ok (x := y) (W.keeps X9.fr.keep) (a.wg.keeps X9.fr.keep) (Based.start (tb.1.keeps X9.fr.keep) (tb.2.keeps X9.fr.keep) (by decide)) G (ao.mono (by omega : d + 4 ≤ d + 5)) (by got_up) (by got_up) rfl rfl (by omega) ?_
      intro s' g more h tk G' hos' B' gn
      obtain ⟨g₀, a', X9⟩ := a.grow X9 tb B' gn
      dsimp only [List.nil_append] at X9
      clear a W G tb B' gn
      have a := a'
      have W := a.W
      have G := G'
      have hos := hos'.trans hos
      clear a' G' hos'
      repeat none_booked
      rename Fx _ _ _ _ _ _ => X9
      exact ret _ _ _ G hos (a.old.step_keeps X9.fr.keep)
end
section
variable {prog : Program} {w : World} {A : Around} {E : Value → Shared → Prop} {s : Shared} {h hb : Heap} {tk d : Nat} {Q : Value → Shared → Prop} {Ll : Addr} {envl : Env}
theorem c_ratio {a b k : Int} {t₁ t₂ t₃ : Tok} (am : Am T (KK w) hb Ll h) (G : AllBare s.gens) (ao : AOk A (d + 6)) (hA : A.frames = some [envl]) (hk : envl.scope.kind ≠ .module) (hf : envl.frame = some Ll)
    (ba : (a.natAbs : Int) ≤ 59994) (bb : (b.natAbs : Int) ≤ 6) (k0 : 0 < k) (k1 : k ≤ 10001)
    (ret : ∀ s' h' tk', AllBare s'.gens → s'.os = s.os → OldK hb h' → Q (.bool true) (mk s' h' tk')) : CallF prog w A 234 [.int a t₁, .int b t₂, .int k t₃] Q E (mk s h tk) := by
  have W := am.W
  refine enterF (binds := [("a", .int a t₁), ("b", .int b t₂), ("scale", .int k t₃)]) (ns := ["a", "b", "scale", "p", "q", "sp", "sq", "f", "refused", "u", "v", "parts", "barred", "g", "num", "den"]) (gs := ["signed_from_int", "fraction_of", "ZeroDivisionError", "_law_limbs", "abs", "divmod_long", "_law_pair", "_law_common", "type", "tuple", "_law_signed_ok", "to_decimal", "str"]) W ao hA rfl (by conv => lhs; whnf) (by kernel_rfl) (by kernel_rfl) (by kernel_rfl) (by k_clsL) ?_
  intro A nm scope f cd L h₁ tk hA X ao sc gs
  have hos : s.os = s.os := rfl
  have bp := mul_b (a := a) (k := k) (B := 59994) (by decide) ba k0 k1
  have bq := mul_b (a := b) (k := k) (B := 6) (by decide) bb k0 k1
  have lp := len_b (x := ((a * k).natAbs : Int)) (by omega) (by omega)
  have lq := len_b (x := ((b * k).natAbs : Int)) (by omega) (by omega)
  repeat none_booked
  refine c_signed_from_int (W.keeps (Fx.fr (by assumption)).keep) (ao.mono (by omega : d + 2 ≤ d + 5)) (by omega) ?_
  intro px lxa tx h tk g
  rename Fx _ _ _ _ _ _ => X9
  have X9 := X9.gain2 g
  repeat none_booked
  rename Fx _ _ _ _ _ _ => X9
  refine c_signed_from_int (W.keeps X9.fr.keep) (ao.mono (by omega : d + 2 ≤ d + 5)) (by omega) ?_
  intro py lya ty h tk g
  have X9 := X9.gain2 g
  repeat none_booked
  rename Fx _ _ _ _ _ _ => X9
  by_cases hb0 : b = 0
  · have hq0 : b * k = 0 := by rw [hb0, Int.zero_mul]
    have hq1 : ((b * k).natAbs : Int) = 0 := by rw [hq0]; rfl
    refine x_tryBad (X := "ZeroDivisionError") PySem.F.isExc_ZeroDivisionError PySem.F.notTuple_ZeroDivisionError (by rw [isSubtype_type]; kernel_rfl) am sc gs (by repeat (first | with_reducible exact List.mem_cons_self | with_reducible apply List.mem_cons_of_mem)) (by repeat (first | with_reducible exact List.mem_cons_self | with_reducible apply List.mem_cons_of_mem)) hA hf ?_
    repeat none_booked
    refine e_fraction_of (W.keeps X9.fr.keep) (ao.mono (by omega : d + 1 ≤ d + 5)) (frs_here X9 am.fr hA sc hk hf) (by got_up) (by rw [hq0]; rfl) ?_
    intro ea h' tk' th
    refine ⟨ea, _, h', tk', _, _, rfl, rfl, X9, th, ?_⟩
    intro g h tk a' X9
    clear am W
    have am := a'
    have W := am.W
    clear a'
    repeat none_booked
    refine x_nil ⟨rfl, ?_⟩
    repeat none_booked
    rename Fx _ _ _ _ _ _ => X9
    refine c_limbs (W.keeps X9.fr.keep) (ao.mono (by omega : d + 1 ≤ d + 5)) (by omega) (by omega) ?_
    intro lu h tk g
    have X9 := X9.gain1 g
    repeat none_booked
    rename Fx _ _ _ _ _ _ => X9
    refine c_limbs (W.keeps X9.fr.keep) (ao.mono (by omega : d + 1 ≤ d + 5)) (by omega) (by omega) ?_
    intro lv h tk g
    have X9 := X9.gain1 g
    repeat none_booked
    rename Fx _ _ _ _ _ _ => X9
    refine x_tryBad (X := "ZeroDivisionError") PySem.F.isExc_ZeroDivisionError PySem.F.notTuple_ZeroDivisionError (by rw [isSubtype_type]; kernel_rfl) am sc gs (by repeat (first | with_reducible exact List.mem_cons_self | with_reducible apply List.mem_cons_of_mem)) (by repeat (first | with_reducible exact List.mem_cons_self | with_reducible apply List.mem_cons_of_mem)) hA hf ?_
    repeat none_booked
    refine e_divmod (W.keeps X9.fr.keep) (ao.mono (by omega : d + 1 ≤ d + 5)) (frs_here X9 am.fr hA sc hk hf) (by got_up) (by got_up) hq1 ?_
    intro ea h' tk' th
    refine ⟨ea, _, h', tk', _, _, rfl, rfl, X9, th, ?_⟩
    intro g h tk a' X9
    clear am W
    have am := a'
    have W := am.W
    clear a'
    repeat none_booked
    refine x_nil ⟨rfl, ?_⟩
    repeat none_booked
    rename Fx _ _ _ _ _ _ => X9
    refine c_pair (W.keeps X9.fr.keep) (ao.mono (by omega : d + 2 ≤ d + 5)) (by omega) ?_
    intro pc lc tc h tk g
    have X9 := X9.gain2 g
    refine r_neD ao (Rd.pair (by got_up) (by got_up)) (Rd.pair (by got_up) (by got_up)) (sh_pair _ _) ?_
    repeat none_booked
    refine c_pair (W.keeps X9.fr.keep) (ao.mono (by omega : d + 2 ≤ d + 5)) (by omega) ?_
    intro pc lc tc h tk g
    have X9 := X9.gain2 g
    refine r_neD ao (Rd.pair (by got_up) (by got_up)) (Rd.pair (by got_up) (by got_up)) (sh_pair _ _) ?_
    repeat none_booked
    refine c_limbs (W.keeps X9.fr.keep) (ao.mono (by omega : d + 1 ≤ d + 5)) (by omega) (by omega) ?_
    intro lc h tk g
    have X9 := X9.gain1 g
    refine r_neD ao (Rd.il (by got_up)) (Rd.il (by got_up)) (ke_shaped_ints _) ?_
    repeat none_booked
    refine c_limbs (W.keeps X9.fr.keep) (ao.mono (by omega : d + 1 ≤ d + 5)) (by omega) (by omega) ?_
    intro lc h tk g
    have X9 := X9.gain1 g
    refine r_neD ao (Rd.il (by got_up)) (Rd.il (by got_up)) (ke_shaped_ints _) ?_
    repeat none_booked
    refine split_if (fun _ => ?_) (fun hn => absurd hb0 hn)
    repeat none_booked
    exact ret _ _ _ G hos (am.old.step_keeps X9.fr.keep)
  · have hqn : b * k ≠ 0 := Int.mul_ne_zero hb0 (by omega)
    obtain ⟨f1, f2, f3, f4, f5, f6, f7, f8⟩ := ratio_facts (a := a) (b := b) k0 hb0
    have d0 : 0 ≤ ((a * k).natAbs : Int) / ((b * k).natAbs : Int) := Int.ediv_nonneg (by omega) (by omega)
    have d1 : ((a * k).natAbs : Int) / ((b * k).natAbs : Int) ≤ ((a * k).natAbs : Int) := Int.ediv_le_self _ (by omega)
    have d2 : 0 ≤ ((a * k).natAbs : Int) % ((b * k).natAbs : Int) := Int.emod_nonneg _ (by omega)
    have d3 : ((a * k).natAbs : Int) % ((b * k).natAbs : Int) < ((b * k).natAbs : Int) := Int.emod_lt_of_pos _ (by omega)
    refine x_tryOk ?_
    repeat none_booked
    refine c_fraction_of (x := a * k) (y := b * k) (W.keeps X9.fr.keep) ao (by got_up) (by got_up) (by got_up) (by got_up) rfl rfl rfl rfl hqn (by omega) (by omega) ?_
    intro pf pn ln ld tn h tk g
    rw [f5, f6, f7] at g
    have X9 := X9.gain4 g
    repeat none_booked
    refine x_nil ⟨rfl, ?_⟩
    repeat none_booked
    rename Fx _ _ _ _ _ _ => X9
    refine c_limbs (W.keeps X9.fr.keep) (ao.mono (by omega : d + 1 ≤ d + 5)) (by omega) (by omega) ?_
    intro lu h tk g
    have X9 := X9.gain1 g
    repeat none_booked
    rename Fx _ _ _ _ _ _ => X9
    refine c_limbs (W.keeps X9.fr.keep) (ao.mono (by omega : d + 1 ≤ d + 5)) (by omega) (by omega) ?_
    intro lv h tk g
    have X9 := X9.gain1 g
    repeat none_booked
    rename Fx _ _ _ _ _ _ => X9
    refine x_tryOk ?_
    repeat none_booked
    refine c_divmod (W.keeps X9.fr.keep) (ao.mono (by omega : d + 3 ≤ d + 5)) (by got_up) (by got_up) (by omega) (by omega) (by omega) (by omega) ?_
    intro pd lq lr h tk g
    have X9 := X9.gain3 g
    repeat none_booked
    refine x_nil ⟨rfl, ?_⟩
    repeat none_booked
    rename Fx _ _ _ _ _ _ => X9
    refine c_pair (W.keeps X9.fr.keep) (ao.mono (by omega : d + 2 ≤ d + 5)) (by omega) ?_
    intro pc lc tc h tk g
    have X9 := X9.gain2 g
    refine r_neD ao (Rd.pair (by got_up) (by got_up)) (Rd.pair (by got_up) (by got_up)) (sh_pair _ _) ?_
    repeat none_booked
    refine c_pair (W.keeps X9.fr.keep) (ao.mono (by omega : d + 2 ≤ d + 5)) (by omega) ?_
    intro pc lc tc h tk g
    have X9 := X9.gain2 g
    refine r_neD ao (Rd.pair (by got_up) (by got_up)) (Rd.pair (by got_up) (by got_up)) (sh_pair _ _) ?_
    repeat none_booked
    refine c_limbs (W.keeps X9.fr.keep) (ao.mono (by omega : d + 1 ≤ d + 5)) (by omega) (by omega) ?_
    intro lc h tk g
    have X9 := X9.gain1 g
    refine r_neD ao (Rd.il (by got_up)) (Rd.il (by got_up)) (ke_shaped_ints _) ?_
    repeat none_booked
    refine c_limbs (W.keeps X9.fr.keep) (ao.mono (by omega : d + 1 ≤ d + 5)) (by omega) (by omega) ?_
    intro lc h tk g
    have X9 := X9.gain1 g
    refine r_neD ao (Rd.il (by got_up)) (Rd.il (by got_up)) (ke_shaped_ints _) ?_
    repeat none_booked
    refine split_if (fun hn => absurd hn hb0) (fun _ => ?_)
    repeat none_booked
    rename Fx _ _ _ _ _ _ => X9
    refine c_limbs (W.keeps X9.fr.keep) (ao.mono (by omega : d + 1 ≤ d + 5)) (by omega) (by omega) ?_
    intro lc h tk g
    have X9 := X9.gain1 g
    repeat none_booked
    rename Fx _ _ _ _ _ _ => X9
    refine c_limbs (W.keeps X9.fr.keep) (ao.mono (by omega : d + 1 ≤ d + 5)) (by omega) (by omega) ?_
    intro lc h tk g
    have X9 := X9.gain1 g
    repeat none_booked
    rename Fx _ _ _ _ _ _ => X9
    refine r_neD ao (Rd.tv (by got_up) (Rd.il (by got_up)) (Rd.il (by got_up))) (Rd.tv (by got_up) (Rd.il (by got_up)) (Rd.il (by got_up))) (sh_lists _ _) ?_
    repeat none_booked
    refine c_common (W.keeps X9.fr.keep) (ao.mono (by omega : d + 1 ≤ d + 5)) hb0 (by omega) ?_
    intro tg h tk g
    have X9 := X9.gain0 g
    repeat none_booked
    refine split_if (fun hd => ?_) (fun hd => ?_)
    · have hden : ((b / Int.gcd a b).natAbs : Int) = -(b / Int.gcd a b) := by omega
      have hlen := len_b (x := ((b / Int.gcd a b).natAbs : Int)) (by omega) (by omega)
      have hnum : sg (a / Int.gcd a b) * sg (b / Int.gcd a b) = sg (-(a / Int.gcd a b)) := by rw [sg_neg hd, sg_negI]; omega
      have hna : ((a / Int.gcd a b).natAbs : Int) = ((-(a / Int.gcd a b)).natAbs : Int) := by omega
      repeat none_booked
      rename Fx _ _ _ _ _ _ => X9
      obtain ⟨ps, tb⟩ := am.tab
      rename Fx _ _ _ _ _ _ => X9
      refine c_signed_ok (x := -(a / Int.gcd a b)) (W.keeps X9.fr.keep) (am.wg.keeps X9.fr.keep) (Based.start (tb.1.keeps X9.fr.keep) (tb.2.keeps X9.fr.keep) (by decide)) G (ao.mono (by omega : d + 4 ≤ d + 5)) (by got_up) (by got_up) hnum hna (by omega) ?_
      intro s' g more h tk G' hos' B' gn
      obtain ⟨g₀, a', X9⟩ := am.grow X9 tb B' gn
      dsimp only [List.nil_append] at X9
      clear am W G tb B' gn
      have am := a'
      have W := am.W
      have G := G'
      have hos := hos'.trans hos
      clear a' G' hos'
      repeat none_booked
      rename Fx _ _ _ _ _ _ => X9
      refine c_limbs (W.keeps X9.fr.keep) (ao.mono (by omega : d + 1 ≤ d + 5)) (by omega) (by omega) ?_
      intro lc h tk g
      have X9 := X9.gain1 g
      rw [hden] at X9
      rw [hden] at hlen
      refine r_neD ao (Rd.il (by got_up)) (Rd.il (by got_up)) (ke_shaped_ints _) ?_
      repeat none_booked
      refine c_to_decimal (W.keeps X9.fr.keep) (ao.mono (by omega : d + 1 ≤ d + 5)) (by got_up) (by omega) (by omega) ?_
      intro td h tk g
      have X9 := X9.gain0 g
      repeat none_booked
      refine split_if' (fun hc => absurd hc (by simp)) (fun _ => ?_)
      repeat none_booked
      exact ret _ _ _ G hos (am.old.step_keeps X9.fr.keep)
    · have hden : ((b / Int.gcd a b).natAbs : Int) = b / Int.gcd a b := by omega
      have hlen := len_b (x := ((b / Int.gcd a b).natAbs : Int)) (by omega) (by omega)
      have hnum : sg (a / Int.gcd a b) * sg (b / Int.gcd a b) = sg (a / Int.gcd a b) := by rw [sg_pos (x := b / Int.gcd a b) (by omega), Int.mul_one]
      repeat none_booked
      rename Fx _ _ _ _ _ _ => X9
      obtain ⟨ps, tb⟩ := am.tab
      rename Fx _ _ _ _ _ _ => X9
      refine c_signed_ok (x := a / Int.gcd a b) (W.keeps X9.fr.keep) (am.wg.keeps X9.fr.keep) (Based.start (tb.1.keeps X9.fr.keep) (tb.2.keeps X9.fr.keep) (by decide)) G (ao.mono (by omega : d + 4 ≤ d + 5)) (by got_up) (by got_up) hnum rfl (by omega) ?_
      intro s' g more h tk G' hos' B' gn
      obtain ⟨g₀, a', X9⟩ := am.grow X9 tb B' gn
      dsimp only [List.nil_append] at X9
      clear am W G tb B' gn
      have am := a'
      have W := am.W
      have G := G'
      have hos := hos'.trans hos
      clear a' G' hos'
      repeat none_booked
      rename Fx _ _ _ _ _ _ => X9
      refine c_limbs (W.keeps X9.fr.keep) (ao.mono (by omega : d + 1 ≤ d + 5)) (by omega) (by omega) ?_
      intro lc h tk g
      have X9 := X9.gain1 g
      rw [hden] at X9
      rw [hden] at hlen
      refine r_neD ao (Rd.il (by got_up)) (Rd.il (by got_up)) (ke_shaped_ints _) ?_
      repeat none_booked
      refine c_to_decimal (W.keeps X9.fr.keep) (ao.mono (by omega : d + 1 ≤ d + 5)) (by got_up) (by omega) (by omega) ?_
      intro td h tk g
      have X9 := X9.gain0 g
      repeat none_booked
      refine split_if' (fun hc => absurd hc (by simp)) (fun _ => ?_)
      repeat none_booked
      exact ret _ _ _ G hos (am.old.step_keeps X9.fr.keep)
end
local macro_rules | `(tactic| none_booked) => `(tactic| first
  | ((with_reducible show wpAny _ _ (call (Value.builtin "len") _) _ _ _); (with_reducible refine r_lenW (by got_up) (by omega) ?_); intro _ _)
  | ((with_reducible show wpAny _ _ (subscriptTail _ _ _ _) _ _ _); (with_reducible refine r_itemW (by got_up) (by omega) (by omega) (by omega) ?_); intro _))
section
variable {prog : Program} {w : World} {A : Around} {E : Value → Shared → Prop} {s : Shared} {h : Heap} {tk d : Nat} {Q : Value → Shared → Prop}
theorem tops_b : ∀ k, 0 ≤ topsL.getD k 0 ∧ topsL.getD k 0 ≤ 59994 := by
  intro k
  by_cases h : k < 8
  · have : ∀ k, k < 8 → 0 ≤ topsL.getD k 0 ∧ topsL.getD k 0 ≤ 59994 := by decide
    exact this k h
  · rw [List.getD_eq_getElem?_getD, List.getElem?_eq_none (by show 8 ≤ k; omega)]; decide
theorem scales_b : ∀ k, k < 5 → 0 < scalesL.getD k 0 ∧ scalesL.getD k 0 ≤ 10001 := by decide
theorem am_of {h₀ h : Heap} {L : Addr} {ns : List Str} {vs : List (Option Value)} {own : Own} {ps : Array Value} (X : Fx h₀ L h ns vs own) (W : Wd T (KK w) h₀) (wg : Wg h₀) (t : h₀.IsCode 198 194 ps ∧ h₀.TableAt 198 194 ps) : Am T (KK w) h₀ L h := by
  have hL : h₀.get? L = none := by
    cases q : h₀.get? L with
    | none => rfl
    | some o => exact absurd (Nat.lt_of_lt_of_le (Heap.lt_size q) X.fr.above) (Nat.lt_irrefl _)
  obtain ⟨o, es, ep, ho, hd, _⟩ := X.fr.ns
  refine ⟨W.keeps X.fr.keep, wg.keeps X.fr.keep, ⟨ps, t.1.keeps X.fr.keep, t.2.keeps X.fr.keep⟩, .of_keep X.fr.keep, ⟨ps, t.2⟩, hL, ⟨o, es, ep, ho, hd⟩, ?_, by kernel_rfl⟩
  cases q : (KK w).lookup L with
  | none => rfl
  | some o => have := W.kx _ _ q; rw [hL] at this; cases this
theorem c_law {l : Addr} {xs : List Int} {ps : Array Value} (W : Wd T (KK w) h) (wg : Wg h) (t : h.IsCode 198 194 ps ∧ h.TableAt 198 194 ps) (G : AllBare s.gens) (ao : AOk A (d + 9)) (hA : A.frames = some [])
    (hl : Has h l (IW xs)) (hz : xs.length ≤ 63)
    (ret : ∀ s' h' tk', AllBare s'.gens → s'.os = s.os → OldK h h' → Q (.bool true) (mk s' h' tk')) : CallF prog w A 248 [.ref l] Q E (mk s h tk) := by
  refine enterF (binds := [("script", .ref l)]) (ns := ["script", "kind", "a", "x", "y"]) (gs := ["len", "_law_series", "_law_harmonic", "_law_tops", "_law_ratio", "_law_scales", "_law_value", "_law_ledger"]) W ao hA rfl (by conv => lhs; whnf) (by kernel_rfl) (by kernel_rfl) (by kernel_rfl) (by k_clsL) ?_
  intro A nm scope f cd L h₁ tk hA X ao sc gs
  have hkm : (envOf nm scope L f cd).scope.kind ≠ .module := by show scope.kind ≠ _; rw [sc.kind]; nofun
  have hT := tops_has W
  have hS := scales_has W
  have l8 : topsL.length = 8 := rfl
  have l5 : scalesL.length = 5 := rfl
  repeat none_booked
  refine split_if (fun hc => ?_) (fun hlen => ?_)
  · repeat none_booked
    exact ret _ _ _ G rfl (.of_keep X.fr.keep)
  repeat none_booked
  refine split_if (fun hc => ?_) (fun h0 => ?_)
  · repeat none_booked
    rename Fx _ _ _ _ _ _ => X9
    refine c_series (W.keeps X9.fr.keep) (ao.mono (by omega : d + 5 ≤ d + 8)) (by omega) (by omega) (by omega) (by omega) (by omega) (by omega) ?_
    intro h tk g
    have X9 := X9.gain0 g
    repeat none_booked
    exact ret _ _ _ G rfl (.of_keep X9.fr.keep)
  repeat none_booked
  refine split_if (fun hc => ?_) (fun h1 => ?_)
  · repeat none_booked
    rename Fx _ _ _ _ _ _ => X9
    refine c_lharmonic (W.keeps X9.fr.keep) ao (by omega) (by omega) ?_
    intro h tk g
    have X9 := X9.gain0 g
    repeat none_booked
    exact ret _ _ _ G rfl (.of_keep X9.fr.keep)
  repeat none_booked
  refine split_if (fun hc => ?_) (fun h2 => ?_)
  · repeat none_booked
    refine r_tupI (by got_up) (by omega) (by omega) (by omega) ?_
    intro ta
    have b1 := tops_b (xs.getD (1 : Int).toNat 0 % 8).toNat
    have b2 := scales_b (xs.getD (4 : Int).toNat 0 % 5).toNat (by omega)
    repeat none_booked
    refine split_if (fun hc => ?_) (fun hc => ?_)
    · repeat none_booked
      refine r_tupI (by got_up) (by omega) (by omega) (by omega) ?_
      intro ts
      rename Fx _ _ _ _ _ _ => X9
      refine c_ratio (am_of X9 W wg t) G (ao.mono (by omega : d + 6 ≤ d + 8)) hA hkm rfl (by omega) (by omega) b2.1 b2.2 ?_
      intro s' h' tk' G' hos hO
      repeat none_booked
      exact ret _ _ _ G' hos hO
    · repeat none_booked
      refine r_tupI (by got_up) (by omega) (by omega) (by omega) ?_
      intro ts
      rename Fx _ _ _ _ _ _ => X9
      refine c_ratio (am_of X9 W wg t) G (ao.mono (by omega : d + 6 ≤ d + 8)) hA hkm rfl (by omega) (by omega) b2.1 b2.2 ?_
      intro s' h' tk' G' hos hO
      repeat none_booked
      exact ret _ _ _ G' hos hO
  · repeat none_booked
    rename Fx _ _ _ _ _ _ => X9
    refine c_value (W.keeps X9.fr.keep) (ao.mono (by omega : d + 1 ≤ d + 8)) ?_
    intro vx tx h tk g bx
    have X9 := X9.gain0 g
    repeat none_booked
    rename Fx _ _ _ _ _ _ => X9
    refine c_value (W.keeps X9.fr.keep) (ao.mono (by omega : d + 1 ≤ d + 8)) ?_
    intro vy ty h tk g bY
    have X9 := X9.gain0 g
    repeat none_booked
    rename Fx _ _ _ _ _ _ => X9
    refine split_if (fun hc => ?_) (fun hc => ?_)
    · repeat none_booked
      refine c_value (W.keeps X9.fr.keep) (ao.mono (by omega : d + 1 ≤ d + 8)) ?_
      intro vy ty h tk g bY
      have X9 := X9.gain0 g
      repeat none_booked
      rename Fx _ _ _ _ _ _ => X9
      refine c_ledger (am_of X9 W wg t) G (ao.mono (by omega : d + 6 ≤ d + 8)) hA hkm rfl bx bY ?_
      intro s' h' tk' G' hos hO
      repeat none_booked
      exact ret _ _ _ G' hos hO
    · repeat none_booked
      refine c_ledger (am_of X9 W wg t) G (ao.mono (by omega : d + 6 ≤ d + 8)) hA hkm rfl bx bY ?_
      intro s' h' tk' G' hos hO
      repeat none_booked
      exact ret _ _ _ G' hos hO
end
end Mine
end
section
set_option linter.unusedVariables false
set_option maxRecDepth 100000
set_option maxHeartbeats 8000000
open PySem PySem.W PySem.Calls PyProof.Rows
namespace Mine
theorem gv_B {G B : Str → Option Value} {x : Str} {v : Value} (e : G x = none) (b : ∀ x : Str, x ≠ "__name__" → B x = bootBuiltins x) (hx : x ≠ "__name__") (hb : bootBuiltins x = some v) : Gv G B x v :=
  .inr ⟨e, (b x hx).trans hb⟩
theorem wd_of {w : World} {h : Heap} {mg mb : Str → Option Value} (K : ∀ p ∈ KL, h.get? p.1 = some p.2) (g : h.Ns mainGlobals mg) (r : ∀ p ∈ nmL, mg p.1 = p.2) (b : h.Ns builtinsNs mb) (nl : h.NoLimit) (bu : ∀ x : Str, x ≠ "__name__" → mb x = bootBuiltins x) : Wd T (KK w) h := by
  refine ⟨⟨mg, mb, g, b, ?_⟩, nl, fun a o e => K (a, o) (kb_mem e)⟩
  unfold nmL at r
  iterate 36 (obtain ⟨r1, r⟩ := List.forall_mem_cons.mp r; refine List.forall_mem_cons.2 ⟨.inl r1, ?_⟩; clear r1)
  iterate 11 (obtain ⟨r1, r⟩ := List.forall_mem_cons.mp r; refine List.forall_mem_cons.2 ⟨gv_B r1 bu (by decide +kernel) (by kernel_rfl), ?_⟩; clear r1)
  exact fun _ h => nomatch h
theorem tab_of {h : Heap} {p : Program} {loose : List Str} {mean : ExcName → Option Value} {mg mb : Str → Option Value} (K : ∀ p ∈ KL, h.get? p.1 = some p.2) (r : mg ("_law_signed_ok" : Str) = some (.ref 199)) (T : Top p loose mean mg mb h) (e : ((recsOf p).any fun d => d.name == ("_law_signed_ok" : Str)) = true) :
    h.IsCode 198 194 #[] ∧ h.TableAt 198 194 #[] := by
  obtain ⟨d, hd, hn⟩ := List.any_eq_true.mp e
  obtain ⟨a, o, fd, c, P, g1, g2, g3, g4, g5, g6⟩ := T.tab d hd
  rw [beq_iff_eq.mp hn, r] at g1
  cases g1
  have k1 : KL.lookup 199 = some (fo 31 198 "law_sx_vlimbs_7" 412) := by kernel_rfl
  rw [K (199, _) (kb_mem k1)] at g2
  cases g2
  cases g3
  cases g4
  have k2 : KL.lookup 198 = some (co "_law_signed_ok" 455 190 2 193 460) := by kernel_rfl
  have h198 := K (198, _) (kb_mem k2)
  obtain ⟨⟨o', vs', e1, e2, e3, e4⟩, e5⟩ := id g6
  rw [show h.get? 198 = some _ from h198] at e1
  cases e1
  cases e3
  cases e4
  exact ⟨g5, g6⟩
theorem law_holds : PySem.Challenge.rw_sx_vlimbs_7.Holds := by
  refine hd ?_
  intro w s₀ s₁ mg mb G Y fa o pm cd doc dV kV ho hd' hcd hD hmg hg args vals as hpre hlay hrd hwl hlo
  obtain ⟨⟨mg', g', r⟩, K⟩ := Y
  clear ho hd' hcd hD
  have T := G.T
  obtain rfl : mg = mg' := T.g.eq_nsMap.trans g'.eq_nsMap.symm
  have hfa : mg ("law" : Str) = some (.ref fa) := by
    have e : (df 38).name = ("law" : Str) := by kernel_rfl
    rw [← e]
    exact hmg
  have MEM : ∀ (x : Str) (v : Option Value), nmL.lookup x = some v → mg x = v := fun x v e => by
    have : ∀ l : List (Str × Option Value), (∀ p ∈ l, mg p.1 = p.2) → l.lookup x = some v → mg x = v := by
      intro l
      induction l with
      | nil => intro _ e; cases e
      | cons a t ih =>
        intro h e
        simp only [List.lookup] at e
        split at e
        · rename_i q
          cases e
          rw [beq_iff_eq.mp q]
          exact h _ (.head _)
        · exact ih (fun p hp => h p (.tail _ hp)) e
    exact this nmL r e
  rw [MEM "law" (some (.ref 248)) (by kernel_rfl)] at hfa
  cases hfa
  clear hmg
  have W := wd_of (w := w) K g' r T.b T.nolimit T.builtins
  have wg : Wg s₁.heap := by
    obtain ⟨bm, ob, M⟩ := bmod_of_top T
    exact ⟨mg, bm, ob, M⟩
  have tb := tab_of K (MEM _ _ (by kernel_rfl)) T (by decide +kernel)
  clear MEM r K g'
  wrow_args hpre hlay hrd hwl hlo
  rename List Int => xs
  rename IntsAre _ _ => hI
  rename Heap.IsList _ _ _ => hL
  rename ¬ _ < _ => h63
  obtain ⟨oL, e1, e2, n, e3⟩ := hL
  have hh : Has s₁.heap _ (IW xs) := ⟨oL, e1, _, n, hI, e2, e3⟩
  refine (c_law (d := 0) (s := s₁) (tk := s₁.toks) W wg tb (.of_eq hg) ⟨rfl, by decide +kernel, by decide⟩ rfl hh (by omega) ?_).2
  intro s' h' tk' G' hos hO
  refine ⟨.inl ⟨_, .bool true, [], rfl, raisesW_false ?_, .bool true, ?_, unshared_nil⟩, hO, hos, G'⟩
  · wrow_none_raised
  · wrow_post
end Mine
end
theorem PySem.Challenge.cw_sx_vlimbs_7_holds : PySem.Challenge.rw_sx_vlimbs_7.Holds :=
  Mine.law_holds
