import PyProof.Rows.All
import Wide.All
import OpenK.AllK
import Wide.FinOn
import PySem.Challenge.RW_rg0136_01
set_option Elab.async false
set_option rowWalk.seconds 0
set_option maxRecDepth 100000
set_option linter.all false
set_option compiler.extract_closed false
section
open PySem PySem.W PyProof.Rows
namespace Mine
section
/-! the objects written out, and no head: o_head is not asked here -/
local macro_rules | `(tactic| o_head $_) => `(tactic| assumption)
set_option maxRecDepth 100000 in
set_option maxHeartbeats 8000000 in
theorem kk (h : PySem.Challenge.rw_rg0136_01.row.Holds) : PySem.Challenge.rw_rg0136_01.row.Holds := by k_head
end
/-- the text without the statements whose names are read loosely -/
noncomputable def vwBody : List Stmt := match PySem.Challenge.pw_rg0136_01.main.body with
  | xx0 :: _ :: xx2 :: _ :: xx4 :: _ :: xx6 :: xx7 :: xx8 :: xx9 :: xx10 :: xx11 :: xx12 :: xx13 :: xx14 :: xx15 :: xx16 :: xx17 :: xx18 :: xx19 :: xx20 :: xx21 :: _ :: xx23 :: xx24 :: xx25 :: xx26 :: xx27 :: xx28 :: xx29 :: xx30 :: _ :: xx32 :: xx33 :: xx34 :: xx35 :: xx36 :: xx37 :: xx38 :: [] => xx0 :: xx2 :: xx4 :: xx6 :: xx7 :: xx8 :: xx9 :: xx10 :: xx11 :: xx12 :: xx13 :: xx14 :: xx15 :: xx16 :: xx17 :: xx18 :: xx19 :: xx20 :: xx21 :: xx23 :: xx24 :: xx25 :: xx26 :: xx27 :: xx28 :: xx29 :: xx30 :: xx32 :: xx33 :: xx34 :: xx35 :: xx36 :: xx37 :: xx38 :: []
  | _ => []
noncomputable def vw : Program := { PySem.Challenge.pw_rg0136_01 with main := { PySem.Challenge.pw_rg0136_01.main with body := vwBody } }
end Mine
end
section
open PySem PySem.W PyProof.Rows
set_option maxRecDepth 100000
namespace Mine
/-! ## the head: the top's run, one check for each world's answer to the one row it asks -/
noncomputable def Xt (s : Shared) : Bool := xlAt vw [] s && recOk (RowW.records PySem.Challenge.rw_rg0136_01.row.toRowW) s
noncomputable def asl : List Addr := [2, 3, 15, 17, 18, 20, 21, 29, 31, 32, 34, 35, 36, 38, 39, 41, 42, 43, 45, 46, 48, 49, 50, 51, 52, 53, 54, 57, 64, 66, 67, 69, 70, 71, 73, 74, 76, 77, 78, 80, 81, 83, 84, 85, 87, 88, 90, 91, 92, 93, 94, 97, 98, 99, 100, 101, 102, 103, 104, 105, 106, 107, 108, 109, 110, 111, 112, 113, 114, 116, 117, 118, 119, 120, 121, 122, 123, 124, 125, 126, 127, 128, 129, 130, 131, 132, 133, 134, 135, 136, 137, 138, 139, 140, 141, 142, 143, 144, 145, 146, 147, 148, 149, 150, 151, 152, 153, 154, 155, 156, 157, 158, 159, 160, 161, 162, 163, 164, 165, 166, 167, 168, 170, 171, 173, 174, 175, 182, 184, 185, 187, 188, 189, 191, 192, 194, 195, 196, 198, 199, 201, 202, 203, 205, 206, 208, 209, 210, 212, 213, 215, 216, 217, 218, 219, 222, 224, 225, 227, 228, 229, 231, 232, 234, 235, 236, 238, 239, 241, 242, 243, 245, 246, 248, 249, 250, 252, 253, 255, 256, 257, 259, 260, 262, 263, 271, 273, 274, 276, 277, 278, 280, 281, 283, 284, 285, 286, 287, 288, 289, 292, 294, 295, 297, 298, 299, 301, 302, 304, 305, 306, 308, 309, 311, 312, 313, 315, 316, 318, 319, 320, 322, 323, 325, 326, 327, 329, 330, 332, 333, 334, 336, 337, 339, 340, 341, 344, 345, 346, 348, 349, 351, 352, 353, 356, 357, 358, 360, 361, 363, 364, 365, 367, 368, 370, 371, 372, 374, 375, 377, 378, 379, 382, 383]
theorem asl_ok : ∀ P, asl = (kk.heap_1 P).map (·.1) := fun _ => by kernel_rfl
noncomputable def obs (s : Shared) : List (Option Obj) := asl.map s.heap.get?
noncomputable def val (w : World) : List (Option Obj) := (kk.heap_1 w.params).map fun p => some p.2
/-- the run, of any text: so the text's own strings are not turned (a twin of the text costs 3 MB); the objects and the looks apart -/
noncomputable def lhsA (p : Program) (b : Bool) (w : World) := Option.map (fun s₀ => Option.map (fun s => obs s) (topFrom treeTable p (w.withFollow "special-get-raises" b) 5730 s₀)) (fencedOpening treeTable p w 5730)
noncomputable def lhsB (p q : Program) (ms : List Str) (X : Shared → Bool) (b : Bool) (w : World) := Option.map (fun s₀ => Option.map (fun s => openSeen q [Str.ofString "ROWS"] ms X true s) (topFrom treeTable p (w.withFollow "special-get-raises" b) 5730 s₀)) (fencedOpening treeTable p w 5730)
noncomputable def rhsA (b : Bool) (w : World) := some (some (val (w.withFollow "special-get-raises" b)))
noncomputable def rhsB := some (some (openGood vw [Str.ofString "ROWS"]))
lay_quick Mine.lhsA Mine.lhsB
theorem eqA (b : Bool) (w : World) (h : PySem.W.Fast.tw14822474811161255729 PySem.Challenge.pw_rg0136_01 b w = rhsA b w) : lhsA PySem.Challenge.pw_rg0136_01 b w = rhsA b w := (congrFun (congrFun (congrFun PySem.W.Fast.te14822474811161255729 _) _) _).trans h
theorem eqB (b : Bool) (w : World) (h : PySem.W.Fast.tw7856491800760545589 PySem.Challenge.pw_rg0136_01 vw (importedModules PySem.Challenge.pw_rg0136_01.main.body) Xt b w = rhsB) : lhsB PySem.Challenge.pw_rg0136_01 vw (importedModules PySem.Challenge.pw_rg0136_01.main.body) Xt b w = rhsB := (congrFun (congrFun (congrFun (congrFun (congrFun (congrFun PySem.W.Fast.te7856491800760545589 _) _) _) _) _) _).trans h
theorem eqA0 (w : World) : lhsA PySem.Challenge.pw_rg0136_01 false w = rhsA false w := eqA _ w (by kernel_rfl)
theorem eqA1 (w : World) : lhsA PySem.Challenge.pw_rg0136_01 true w = rhsA true w := eqA _ w (by kernel_rfl)
theorem eqB0 (w : World) : lhsB PySem.Challenge.pw_rg0136_01 vw (importedModules PySem.Challenge.pw_rg0136_01.main.body) Xt false w = rhsB := eqB _ w (by kernel_rfl)
theorem eqB1 (w : World) : lhsB PySem.Challenge.pw_rg0136_01 vw (importedModules PySem.Challenge.pw_rg0136_01.main.body) Xt true w = rhsB := eqB _ w (by kernel_rfl)
theorem map_two {α β γ : Type} {x : Option α} {f : α → Option β} {g : α → Option γ} {a : Option β} {b : Option γ} (h1 : x.map f = some a) (h2 : x.map g = some b) : x.map (fun s => (f s, g s)) = some (a, b) := by
  cases x with
  | none => cases h1
  | some s => exact congrArg some (congr (congrArg Prod.mk (Option.some.inj h1)) (Option.some.inj h2))
theorem map_pair {α β γ δ : Type} {x : Option α} {t : α → Option β} {f : β → γ} {g : β → δ} {a : γ} {b : δ} (h1 : x.map (fun s₀ => (t s₀).map f) = some (some a)) (h2 : x.map (fun s₀ => (t s₀).map g) = some (some b)) : x.map (fun s₀ => (t s₀).map fun s => (f s, g s)) = some (some (a, b)) := by
  cases x with
  | none => cases h1
  | some s =>
    have h1 : (t s).map f = some a := Option.some.inj h1
    have h2 : (t s).map g = some b := Option.some.inj h2
    show some ((t s).map fun s => (f s, g s)) = some (some (a, b))
    cases e : t s with
    | none => rw [e] at h1; cases h1
    | some u =>
      rw [e] at h1 h2
      exact congrArg (fun z => some (some z)) (congr (congrArg Prod.mk (Option.some.inj h1)) (Option.some.inj h2))
theorem left : LeftO PySem.Challenge.pw_rg0136_01 vw [Str.ofString "ROWS"] Xt (Hook.obs (kHook kk.heap_1 asl asl_ok)) (Hook.val (kHook kk.heap_1 asl asl_ok)) 5730 :=
  LeftO.of_split "special-get-raises" fun w => map_two (map_pair (eqB0 w) (eqA0 w)) (map_pair (eqB1 w) (eqA1 w))
theorem left2 : LeftO PySem.Challenge.rw_rg0136_01.row.prog vw [Str.ofString "ROWS"] Xt (Hook.obs (kHook kk.heap_1 asl asl_ok)) (Hook.val (kHook kk.heap_1 asl asl_ok)) 5730 := left
theorem ws : PySem.Challenge.rw_rg0136_01.wellSaid = true := by kernel_rfl
end Mine
end
section
open PySem
namespace Mine
/-! ## the instructions -/
inductive Op where
  | const (k : Int) | varref | varbind | unbind | dup | discard | stackref | call | cons | eq | list3 | ret
  | goto (p : Int) | gnil (p : Int) | gnilpop (p : Int) | gnonpop (p : Int) | pcatch (p : Int) | pop
noncomputable def Op.word : Op → Str
  | .const _ => Str.ofString "const" | .varref => Str.ofString "varref" | .varbind => Str.ofString "varbind" | .unbind => Str.ofString "unbind" | .dup => Str.ofString "dup" | .discard => Str.ofString "discard"
  | .stackref => Str.ofString "stackref" | .call => Str.ofString "call" | .cons => Str.ofString "plain" | .eq => Str.ofString "plain" | .list3 => Str.ofString "plain" | .ret => Str.ofString "return"
  | .goto _ => Str.ofString "goto" | .gnil _ => Str.ofString "gotoifnil" | .gnilpop _ => Str.ofString "gotoifnilelsepop" | .gnonpop _ => Str.ofString "gotoifnonnilelsepop" | .pcatch _ => Str.ofString "pushcatch" | .pop => Str.ofString "pophandler"
noncomputable def Op.arg : Op → Int
  | .const k => k | .varref => 1 | .varbind => 1 | .unbind => 1 | .dup => -1 | .discard => -1 | .stackref => 1 | .call => 2 | .cons => 2 | .eq => 5 | .list3 => 36 | .ret => -1
  | .goto p => p | .gnil p => p | .gnilpop p => p | .gnonpop p => p | .pcatch p => p | .pop => -1
noncomputable def Op.popped : Op → Int
  | .const _ => 0 | .varref => 0 | .varbind => 1 | .unbind => 0 | .dup => 1 | .discard => 1 | .stackref => 0 | .call => 3 | .cons => 2 | .eq => 2 | .list3 => 3 | .ret => 1
  | .goto _ => 0 | .gnil _ => 1 | .gnilpop _ => 1 | .gnonpop _ => 1 | .pcatch _ => 1 | .pop => 0
noncomputable def Op.pushed : Op → Int
  | .const _ => 1 | .varref => 1 | .varbind => 0 | .unbind => 0 | .dup => 2 | .discard => 0 | .stackref => 1 | .call => 1 | .cons => 1 | .eq => 1 | .list3 => 1 | .ret => 0
  | .goto _ => 0 | .gnil _ => 0 | .gnilpop _ => 0 | .gnonpop _ => 0 | .pcatch _ => 0 | .pop => 0
noncomputable def Op.needed : Op → Int
  | .stackref => 2
  | o => o.popped
noncomputable def Op.binds : Op → Int
  | .varbind => 1 | .unbind => -1 | _ => 0
noncomputable def Op.hands : Op → Int
  | .pcatch _ => 1 | .pop => -1 | _ => 0
/-! ## standings: what they are, what an instruction makes of one -/
structure St where
  v : Int
  b : Int
  hs : List (Int × Int × Int)
noncomputable def Op.laterHs (o : Op) (st : St) : List (Int × Int × Int) := match o with
  | .pcatch p => st.hs ++ [(st.v - o.popped + o.pushed, st.b, p)]
  | .pop => st.hs.dropLast
  | _ => st.hs
noncomputable def Op.step (o : Op) (st : St) : St := ⟨st.v - o.popped + o.pushed, st.b + o.binds, o.laterHs st⟩
structure Op.Ok (o : Op) (st : St) : Prop where
  need : o.needed ≤ st.v
  bnd : 0 ≤ st.b + o.binds
  popd : o.hands < 0 → ∃ x, st.hs.getLast? = some x ∧ x.2.1 = st.b
  top : ∀ x, (o.laterHs st).getLast? = some x → x.2.1 ≤ st.b + o.binds
  size : st.hs.length ≤ 1000
noncomputable def Op.ways (o : Op) (i : Int) (st : St) : List (Int × St) := match o with
  | .ret => []
  | .goto p => [(p, o.step st)]
  | .gnil p => [(i + 1, o.step st), (p, o.step st)]
  | .gnilpop p => [(i + 1, o.step st), (p, ⟨(o.step st).v + 1, (o.step st).b, (o.step st).hs⟩)]
  | .gnonpop p => [(i + 1, o.step st), (p, ⟨(o.step st).v + 1, (o.step st).b, (o.step st).hs⟩)]
  | .pcatch p => [(i + 1, o.step st), (p, ⟨(o.step st).v + 1, (o.step st).b, st.hs⟩)]
  | _ => [(i + 1, o.step st)]
end Mine
end
section
open PySem
namespace Mine
/-! ## well-made code, and the worklist over it -/
structure WellMade (code : List Op) (T : Nat → St) : Prop where
  zero : T 0 = ⟨0, 0, []⟩
  pos : 0 < code.length
  small : code.length ≤ 1000
  ok : ∀ (i : Nat) (o : Op), code[i]? = some o → o.Ok (T i)
  ways : ∀ (i : Nat) (o : Op), code[i]? = some o → ∀ w ∈ o.ways i (T i), ∃ j : Nat, w.1 = (j : Int) ∧ j < code.length ∧ w.2 = T j
  ret : ∀ i : Nat, code[i]? = some .ret → Op.ret.step (T i) = ⟨0, 0, []⟩
  size : ∀ (i : Nat) (o : Op), code[i]? = some o → (o.step (T i)).hs.length ≤ 1000
  reach : ∀ P : Nat → Prop, P 0 → (∀ (i : Nat) (o : Op), code[i]? = some o → P i → ∀ w ∈ o.ways i (T i), ∀ j : Nat, w.1 = (j : Int) → P j) → ∀ i : Nat, i < code.length → P i
theorem ways_two (o : Op) (i : Int) (st : St) : (o.ways i st).length ≤ 2 := by cases o <;> first | exact Nat.le_succ 1 | exact Nat.le_refl 2 | exact Nat.zero_le 2
noncomputable def unknown (known : List (Option St)) : Nat := known.countP (·.isNone)
structure Work (code : List Op) (T : Nat → St) (known : List (Option St)) (ws : List (Int × St)) (n : Nat) : Prop where
  len : known.length = code.length
  right : ∀ (i : Nat) (st : St), known[i]? = some (some st) → st = T i
  wait : ∀ w ∈ ws, ∃ j : Nat, w.1 = (j : Int) ∧ j < code.length ∧ w.2 = T j
  clo : ∀ (i : Nat) (o : Op) (st : St), code[i]? = some o → known[i]? = some (some st) → ∀ w ∈ o.ways i (T i), w ∈ ws ∨ ∃ j : Nat, w.1 = (j : Int) ∧ ∃ st, known[j]? = some (some st)
  first : (0, T 0) ∈ ws ∨ ∃ st, known[0]? = some (some st)
  meas : n = 3 * unknown known + ws.length
  few : ws.length + 2 * unknown known ≤ 1 + 2 * code.length
theorem work_start {code : List Op} {T : Nat → St} (W : WellMade code T) : Work code T (List.replicate code.length none) [(0, ⟨0, 0, []⟩)] (3 * code.length + 1) := by
  have hu : unknown (List.replicate code.length none) = code.length := by simp [unknown, List.countP_replicate]
  refine ⟨by simp, ?_, ?_, ?_, ?_, by rw [hu]; rfl, by rw [hu]; simp⟩
  · intro i st h
    rw [List.getElem?_replicate] at h
    split at h <;> cases h
  · intro w hw
    rw [List.mem_singleton.mp hw]
    exact ⟨0, rfl, W.pos, W.zero.symm⟩
  · intro i o st _ h
    rw [List.getElem?_replicate] at h
    split at h <;> cases h
  · exact .inl (by rw [W.zero]; simp)
theorem work_known {code : List Op} {T : Nat → St} {known : List (Option St)} {q : List (Int × St)} {w : Int × St} {n i : Nat} {st : St} (K : Work code T known (q ++ [w]) n) (hw : w.1 = (i : Int)) (hk : known[i]? = some (some st)) :
    ∃ m, m < n ∧ Work code T known q m := by
  refine ⟨3 * unknown known + q.length, by rw [K.meas, List.length_append]; simp, K.len, K.right, fun v hv => K.wait v (List.mem_append_left _ hv), ?_, ?_, rfl, ?_⟩
  · intro j o st' ho hj v hv
    rcases K.clo j o st' ho hj v hv with h | h
    · rcases List.mem_append.mp h with h | h
      · exact .inl h
      · rw [List.mem_singleton.mp h]; exact .inr ⟨i, hw, st, hk⟩
    · exact .inr h
  · rcases K.first with h | h
    · rcases List.mem_append.mp h with h | h
      · exact .inl h
      · have e := List.mem_singleton.mp h
        rw [← e] at hw
        have e0 : i = 0 := by have : (0 : Int) = i := hw; omega
        subst e0
        exact .inr ⟨st, hk⟩
    · exact .inr h
  · have := K.few
    rw [List.length_append] at this
    simp at this
    omega
theorem unknown_set {known : List (Option St)} {i : Nat} {st : St} (h : known[i]? = some none) : unknown known = unknown (known.set i (some st)) + 1 := by
  induction known generalizing i with
  | nil => simp at h
  | cons x r ih =>
    cases i with
    | zero =>
      simp at h
      subst h
      simp [unknown]
    | succ i =>
      simp at h
      have := ih h
      simp only [unknown, List.set_cons_succ, List.countP_cons] at this ⊢
      omega
theorem work_new {code : List Op} {T : Nat → St} (W : WellMade code T) {known : List (Option St)} {q : List (Int × St)} {w : Int × St} {n i : Nat} {o : Op} (K : Work code T known (q ++ [w]) n) (hw : w.1 = (i : Int)) (ho : code[i]? = some o) (hk : known[i]? = some none) :
    ∃ m, m < n ∧ Work code T (known.set i (some (T i))) (q ++ o.ways i (T i)) m := by
  have hu := unknown_set (st := T i) hk
  have h2 := ways_two o i (T i)
  have hi : i < known.length := by
    rcases Nat.lt_or_ge i known.length with h | h
    · exact h
    · rw [List.getElem?_eq_none h] at hk; cases hk
  have at_i : (known.set i (some (T i)))[i]? = some (some (T i)) := by simp [hi]
  have keep : ∀ {j : Nat}, (∃ st, known[j]? = some (some st)) → ∃ st, (known.set i (some (T i)))[j]? = some (some st) := by
    rintro j ⟨st, h⟩
    by_cases e : i = j
    · subst e; exact ⟨_, at_i⟩
    · exact ⟨st, by rw [List.getElem?_set_ne e]; exact h⟩
  refine ⟨3 * unknown (known.set i (some (T i))) + (q ++ o.ways i (T i)).length, ?_, ?_, ?_, ?_, ?_, ?_, rfl, ?_⟩
  · rw [K.meas, hu]; simp; omega
  · simp [K.len]
  · intro j st h
    by_cases e : i = j
    · subst e; rw [at_i] at h; cases h; rfl
    · rw [List.getElem?_set_ne e] at h; exact K.right j st h
  · intro v hv
    rcases List.mem_append.mp hv with h | h
    · exact K.wait v (List.mem_append_left _ h)
    · exact W.ways i o ho v h
  · intro j o' st ho' hj v hv
    by_cases e : i = j
    · subst e
      rw [ho] at ho'; cases ho'
      exact .inl (List.mem_append_right _ hv)
    · rw [List.getElem?_set_ne e] at hj
      rcases K.clo j o' st ho' hj v hv with h | ⟨j', h1, h2⟩
      · rcases List.mem_append.mp h with h | h
        · exact .inl (List.mem_append_left _ h)
        · rw [List.mem_singleton.mp h]; exact .inr ⟨i, hw, _, at_i⟩
      · exact .inr ⟨j', h1, keep h2⟩
  · rcases K.first with h | h
    · rcases List.mem_append.mp h with h | h
      · exact .inl (List.mem_append_left _ h)
      · have e := List.mem_singleton.mp h
        rw [← e] at hw
        have e0 : i = 0 := by have : (0 : Int) = i := hw; omega
        subst e0
        exact .inr ⟨_, at_i⟩
    · exact .inr (keep h)
  · have := K.few
    rw [List.length_append] at this ⊢
    simp at this
    omega
theorem work_done {code : List Op} {T : Nat → St} (W : WellMade code T) {known : List (Option St)} {n : Nat} (K : Work code T known [] n) : known = (List.range code.length).map fun i => some (T i) := by
  have h : ∀ i, i < code.length → ∃ st, known[i]? = some (some st) := by
    refine W.reach _ ?_ ?_
    · rcases K.first with h | h
      · cases h
      · exact h
    · rintro i o ho ⟨st, hi⟩ w hw j hj
      rcases K.clo i o st ho hi w hw with h | ⟨j', h1, h2⟩
      · cases h
      · have : j' = j := by omega
        exact this ▸ h2
  apply List.ext_getElem?
  intro i
  by_cases hi : i < code.length
  · obtain ⟨st, e⟩ := h i hi
    rw [e, K.right i st e]
    simp [hi]
  · rw [List.getElem?_eq_none (by rw [K.len]; omega), List.getElem?_eq_none (by simp; omega)]
end Mine
end
section
open PySem PySem.W PyProof.Rows PySem.Calls
set_option maxRecDepth 100000
namespace Mine
/-! ## calls from the outside: the callee's base is the whole heap -/
section
variable {PG : Program} {w : World} {A : Around} {s : Shared}
theorem enter {R : Result → Shared → Prop} {name qual : Str} {params : Arguments} {body : List Stmt} {scope : Scope} {dV kV doc pm cdv ct oc : Value} {an od : Option Addr} {osl : Array (Option Value)} {f : Addr} {args : Args} {binds : List (Str × Value)} {K : Frag}
    (X : K.In s.heap) (hlim : s.heap.NoLimit)
    (ho : K.lookup f = some ⟨oc, od, .func (fnOf name qual params body scope dV kV doc pm an cdv ct), osl⟩) (hcd : codeIn K cdv qual = true) (hroom : A.depth < recursionLimit)
    (hbind : BindsTo s (fnOf name qual params body scope dV kV doc pm an cdv ct) args binds) (hloc : ∀ y ∈ binds, scope.names.lookup y.1 = some .local)
    (h : ∀ L' h₁, Fr s.heap L' h₁ (fun y => binds.reverse.lookup y) → News s.heap L' h₁ [] →
      wpAny (model PG w) (A.deeper (envOf qual scope L' f cdv)) (execs body (envOf qual scope L' f cdv))
        (fun fl s' => R (.ok (.ret (match fl with | .ret v => v | _ => .none))) s')
        (fun _ _ => False)
        { s with heap := h₁, toks := s.toks + binds.length })
    (hco : scope.isCoroutine = false := by rfl) (hgen : scope.isGenerator = false := by rfl) (hk : scope.kind = .function := by rfl)
    (hcell : ∀ x ∈ scope.names, x.2 ≠ .cell := by decide) : codeAny (model PG w) A (.call (.ref f) args) R s := by
  refine codeAny_call_def (fd := fnOf name qual params body scope dV kV doc pm an cdv ct) (body := body) (binds := binds) hroom (X _ _ ho) rfl hlim (codeRec_of X hcd) rfl hbind hcell hloc (fun h₁ hns hk₁ => ?_) hco hgen hk
  exact wpAny_mono (h s.heap.objs.size h₁ ⟨hns, hk₁, Nat.le_refl _⟩ News.nil) (fun _ _ x => x) fun _ _ x => x.elim
end
section
variable {PG : Program} {w : World} {A : Around} {s : Shared}
/-- as enter; what stands in pre may be changed within: the callee's base is g, which lacks it -/
theorem enter2 {R : Result → Shared → Prop} {name qual : Str} {params : Arguments} {body : List Stmt} {scope : Scope} {dV kV doc pm cdv ct oc : Value} {an od : Option Addr} {osl : Array (Option Value)} {f : Addr} {args : Args} {binds : List (Str × Value)} {K : Frag}
    (g : Heap) (pre : List (Addr × Obj)) (X : K.In g) (hlim : s.heap.NoLimit) (hk : g.StaysIn s.heap) (hsz : g.objs.size ≤ s.heap.objs.size) (hpre : ∀ p ∈ pre, s.heap.get? p.1 = some p.2 ∧ g.get? p.1 = none)
    (ho : K.lookup f = some ⟨oc, od, .func (fnOf name qual params body scope dV kV doc pm an cdv ct), osl⟩) (hcd : codeIn K cdv qual = true) (hroom : A.depth < recursionLimit)
    (hbind : BindsTo s (fnOf name qual params body scope dV kV doc pm an cdv ct) args binds) (hloc : ∀ y ∈ binds, scope.names.lookup y.1 = some .local)
    (h : ∀ L' h₁, Fr g L' h₁ (fun y => binds.reverse.lookup y) → News g L' h₁ pre →
      wpAny (model PG w) (A.deeper (envOf qual scope L' f cdv)) (execs body (envOf qual scope L' f cdv))
        (fun fl s' => R (.ok (.ret (match fl with | .ret v => v | _ => .none))) s')
        (fun _ _ => False)
        { s with heap := h₁, toks := s.toks + binds.length })
    (hco : scope.isCoroutine = false := by rfl) (hgen : scope.isGenerator = false := by rfl) (hkd : scope.kind = .function := by rfl)
    (hcell : ∀ x ∈ scope.names, x.2 ≠ .cell := by decide) : codeAny (model PG w) A (.call (.ref f) args) R s := by
  have X' : K.In s.heap := X.keeps hk
  refine codeAny_call_def (fd := fnOf name qual params body scope dV kV doc pm an cdv ct) (body := body) (binds := binds) hroom (X' _ _ ho) rfl hlim (codeRec_of X' hcd) rfl hbind hcell hloc (fun h₁ hns hk₁ => ?_) hco hgen hkd
  exact wpAny_mono (h s.heap.objs.size h₁ ⟨hns, fun b o e => hk₁ b o (hk b o e), hsz⟩ fun p hp => ⟨hk₁ _ _ (hpre p hp).1, Nat.ne_of_lt (Heap.lt_size (hpre p hp).1), (hpre p hp).2⟩) (fun _ _ x => x) fun _ _ x => x.elim
end
noncomputable abbrev Ar (dp un : Nat) (fr : Option (List Env)) (gd : Option (List Code)) : Around := { handled := none, depth := dp, frames := fr, guards := gd, units := un }
/-! ## stores: what of a heap is never changed again -/
noncomputable abbrev Store := Addr → Obj → Prop
noncomputable abbrev tupObj (vs : List Value) (n : Nat) : Obj := { cls := .type "tuple", data := .seq vs.toArray n }
noncomputable abbrev lstObj (vs : List Value) (n : Nat) : Obj := { cls := .type "list", data := .seq vs.toArray n }
noncomputable def hSt (h : Heap) : Store := fun a o => h.get? a = some o
noncomputable def Ext (σ : Store) (h h' : Heap) : Store := fun a o => σ a o ∨ (h.get? a = none ∧ h'.get? a = some o)
noncomputable def Sub (σ τ : Store) : Prop := ∀ a o, σ a o → τ a o
theorem Sub.refl {σ : Store} : Sub σ σ := fun _ _ h => h
theorem Sub.trans {σ τ υ : Store} (x : Sub σ τ) (y : Sub τ υ) : Sub σ υ := fun a o h => y a o (x a o h)
noncomputable def Tup (σ : Store) (t : Addr) (vs : List Value) : Prop := ∃ n, σ t (tupObj vs n)
noncomputable def Lst (σ : Store) (t : Addr) (vs : List Value) : Prop := ∃ n, σ t (lstObj vs n)
theorem Tup.mono {σ τ : Store} {t vs} (h : Sub σ τ) (x : Tup σ t vs) : Tup τ t vs := let ⟨n, e⟩ := x; ⟨n, h _ _ e⟩
theorem Lst.mono {σ τ : Store} {t vs} (h : Sub σ τ) (x : Lst σ t vs) : Lst τ t vs := let ⟨n, e⟩ := x; ⟨n, h _ _ e⟩
theorem Tup.isTup {h : Heap} {t vs} (x : Tup (hSt h) t vs) : IsTup h t vs.toArray := let ⟨n, e⟩ := x; ⟨_, e, rfl, n, rfl⟩
theorem Lst.isLst {h : Heap} {t vs} (x : Lst (hSt h) t vs) : h.IsList t vs.toArray := let ⟨n, e⟩ := x; ⟨_, e, rfl, n, rfl⟩
noncomputable def Hs (σ : Store) (imm : List (Addr × Obj)) : Store := fun a o => σ a o ∨ (a, o) ∈ imm
theorem hs_sub {σ : Store} {h₀ h : Heap} {L : Addr} {m : Str → Option Value} {news imm : List (Addr × Obj)} (F : Fr h₀ L h m) (N : News h₀ L h news) (hσ : Sub σ (hSt h₀)) (hs : ∀ p ∈ imm, p ∈ news) : Sub (Hs σ imm) (hSt h) :=
  fun a o e => e.elim (fun q => F.keep a o (hσ a o q)) fun q => (N _ (hs _ q)).1
theorem hs_more {σ : Store} {imm imm' : List (Addr × Obj)} (hs : ∀ p ∈ imm, p ∈ imm') : Sub (Hs σ imm) (Hs σ imm') := fun _ _ e => e.elim .inl fun q => .inr (hs _ q)
theorem hs_ext {σ : Store} {h₀ h : Heap} {L : Addr} {news imm : List (Addr × Obj)} (N : News h₀ L h news) (hs : ∀ p ∈ imm, p ∈ news) : Sub (Hs σ imm) (Ext σ h₀ h) :=
  fun _ _ e => e.elim .inl fun q => .inr ⟨(N _ (hs _ q)).2.2, (N _ (hs _ q)).1⟩
theorem sub_ext {σ : Store} {h h' : Heap} : Sub σ (Ext σ h h') := fun _ _ e => .inl e
theorem grown {σ : Store} {h₀ h h' : Heap} {L : Addr} {m : Str → Option Value} {imm : List (Addr × Obj)} (F : Fr h₀ L h m) (hk : h.StaysIn h') :
    ∃ new, News h₀ L h' new ∧ (∀ p ∈ new, h.get? p.1 = none) ∧ Sub (Ext (Hs σ imm) h h') (Hs σ (new ++ imm)) := by
  refine ⟨(List.range h'.objs.size).filterMap fun a => if h.get? a = none then (h'.get? a).map fun o => (a, o) else none, ?_, ?_, ?_⟩
  · intro p hp
    refine Classical.byContradiction fun hn9 => ?_
    obtain ⟨a, _, ha⟩ := List.mem_filterMap.mp hp
    (refine hn9 ?_; clear hn9)
    split at ha
    · rename_i hn
      refine Classical.byContradiction fun hn9 => ?_
      obtain ⟨o, ho, rfl⟩ := Option.map_eq_some_iff.mp ha
      (refine hn9 ?_; clear hn9)
      refine ⟨ho, fun e => ?_, ?_⟩
      · refine Classical.byContradiction fun hn9 => ?_
        obtain ⟨oL, _, _, hL, _⟩ := F.ns
        (refine hn9 ?_; clear hn9)
        dsimp only at e
        rw [e, hL] at hn; cases hn
      · cases q : h₀.get? a with
        | none => rfl
        | some o' => rw [F.keep _ _ q] at hn; cases hn
    · cases ha
  · intro p hp
    refine Classical.byContradiction fun hn9 => ?_
    obtain ⟨a, _, ha⟩ := List.mem_filterMap.mp hp
    (refine hn9 ?_; clear hn9)
    split at ha
    · rename_i hn
      refine Classical.byContradiction fun hn9 => ?_
      obtain ⟨o, ho, rfl⟩ := Option.map_eq_some_iff.mp ha
      (refine hn9 ?_; clear hn9)
      exact hn
    · cases ha
  · intro a o e
    rcases e with e | ⟨e1, e2⟩
    · exact e.elim .inl fun q => .inr (List.mem_append_right _ q)
    · exact .inr (List.mem_append_left _ (List.mem_filterMap.mpr ⟨a, List.mem_range.mpr (Heap.lt_size e2), by rw [if_pos e1, e2]; rfl⟩))
/-! ## data in a store -/
inductive All2 {α β : Type} (P : α → β → Prop) : List α → List β → Prop
  | nil : All2 P [] []
  | cons {a b as bs} : P a b → All2 P as bs → All2 P (a :: as) (b :: bs)
theorem All2.length {α β : Type} {P : α → β → Prop} {as : List α} {bs : List β} (h : All2 P as bs) : as.length = bs.length := by
  induction h with
  | nil => rfl
  | cons _ _ ih => simp [ih]
theorem All2.mono {α β : Type} {P Q : α → β → Prop} {as : List α} {bs : List β} (h : All2 P as bs) (hm : ∀ a b, P a b → Q a b) : All2 Q as bs := by
  induction h with
  | nil => exact .nil
  | cons x _ ih => exact .cons (hm _ _ x) ih
theorem All2.get {α β : Type} {P : α → β → Prop} {as : List α} {bs : List β} (h : All2 P as bs) : ∀ {i : Nat} {b : β}, bs[i]? = some b → ∃ a, as[i]? = some a ∧ P a b := by
  induction h with
  | nil => intro i b e; simp at e
  | cons x _ ih =>
    intro i b e
    cases i with
    | zero => simp at e; subst e; exact ⟨_, rfl, x⟩
    | succ i => simp at e; exact ih e
theorem All2.append {α β : Type} {P : α → β → Prop} {as as' : List α} {bs bs' : List β} (h : All2 P as bs) (h' : All2 P as' bs') : All2 P (as ++ as') (bs ++ bs') := by
  induction h with
  | nil => exact h'
  | cons x _ ih => exact .cons x ih
theorem All2.dropLast {α β : Type} {P : α → β → Prop} {as : List α} {bs : List β} (h : All2 P as bs) : All2 P as.dropLast bs.dropLast := by
  induction h with
  | nil => exact .nil
  | cons x y ih =>
    cases y with
    | nil => exact .nil
    | cons x' y' => exact .cons x ih
/-- one instruction -/
noncomputable def InstrAt (σ : Store) (v : Value) (o : Op) : Prop := ∃ a t1 t2, v = .ref a ∧ Tup σ a [.str o.word t1, .int o.arg t2]
noncomputable def LinesAt (σ : Store) (a : Addr) (ops : List Op) : Prop := ∃ vs, Lst σ a vs ∧ All2 (InstrAt σ) vs ops
noncomputable def HandAt (σ : Store) (v : Value) (x : Int × Int × Int) : Prop := ∃ a t1 t2 t3, v = .ref a ∧ Tup σ a [.int x.1 t1, .int x.2.1 t2, .int x.2.2 t3]
noncomputable def HandsAt (σ : Store) (a : Addr) (hs : List (Int × Int × Int)) : Prop := ∃ vs, Lst σ a vs ∧ All2 (HandAt σ) vs hs
noncomputable abbrev standDict (h1 h2 h3 : Int) (k1 k2 k3 tv tb : Tok) (v b : Int) (l : Addr) : Obj :=
  dictOf [⟨h1, .str (Str.ofString "values") k1, .int v tv⟩, ⟨h2, .str (Str.ofString "bindings") k2, .int b tb⟩, ⟨h3, .str (Str.ofString "handlers") k3, .ref l⟩] 3
noncomputable def StandAt (σ : Store) (a : Addr) (st : St) : Prop := ∃ d l h1 h2 h3 k1 k2 k3 tv tb,
  σ a (instObj 287 d) ∧ σ d (standDict h1 h2 h3 k1 k2 k3 tv tb st.v st.b l) ∧ HandsAt σ l st.hs
theorem InstrAt.mono {σ τ : Store} {v o} (h : Sub σ τ) (x : InstrAt σ v o) : InstrAt τ v o := let ⟨a, t1, t2, e, y⟩ := x; ⟨a, t1, t2, e, y.mono h⟩
theorem LinesAt.mono {σ τ : Store} {a ops} (h : Sub σ τ) (x : LinesAt σ a ops) : LinesAt τ a ops := let ⟨vs, y, z⟩ := x; ⟨vs, y.mono h, z.mono fun _ _ q => q.mono h⟩
theorem HandAt.mono {σ τ : Store} {v o} (h : Sub σ τ) (x : HandAt σ v o) : HandAt τ v o := let ⟨a, t1, t2, t3, e, y⟩ := x; ⟨a, t1, t2, t3, e, y.mono h⟩
theorem HandsAt.mono {σ τ : Store} {a hs} (h : Sub σ τ) (x : HandsAt σ a hs) : HandsAt τ a hs := let ⟨vs, y, z⟩ := x; ⟨vs, y.mono h, z.mono fun _ _ q => q.mono h⟩
theorem StandAt.mono {σ τ : Store} {a st} (h : Sub σ τ) (x : StandAt σ a st) : StandAt τ a st :=
  let ⟨d, l, h1, h2, h3, k1, k2, k3, tv, tb, y1, y2, y3⟩ := x; ⟨d, l, h1, h2, h3, k1, k2, k3, tv, tb, h _ _ y1, h _ _ y2, y3.mono h⟩
theorem instAt_get {h₀ h : Heap} {x C dx : Addr} {od : Obj} {sl : Array (Option Value)} (k : ∀ b o, h₀.get? b = some o → h.get? b = some o) (h1 : h₀.get? x = some (⟨.ref C, some dx, .plain, sl⟩ : Obj)) (h2 : h₀.get? dx = some od) :
    InstAt h x ⟨.ref C, some dx, .plain, sl⟩ C (some od) := ⟨k _ _ h1, rfl, rfl, k _ _ h2⟩
theorem stand_intro {σ : Store} {x d l : Addr} {h1 h2 h3 v b : Int} {k1 k2 k3 tv tb : Tok} {vs : List Value} {n : Nat} {hs : List (Int × Int × Int)} {st : St} (a1 : σ x (instObj 287 d)) (a2 : σ d (standDict h1 h2 h3 k1 k2 k3 tv tb v b l)) (a3 : σ l (lstObj vs n))
    (a4 : All2 (HandAt σ) vs hs) (e : (⟨v, b, hs⟩ : St) = st) : StandAt σ x st := by
  subst e
  exact ⟨d, l, h1, h2, h3, k1, k2, k3, tv, tb, a1, a2, vs, ⟨n, a3⟩, a4⟩
theorem News.ext {σ : Store} {h₀ h : Heap} {L a : Addr} {o : Obj} {news : List (Addr × Obj)} (N : News h₀ L h news) (hm : (a, o) ∈ news) : Ext σ h₀ h a o := .inr ⟨(N _ hm).2.2, (N _ hm).1⟩
theorem All2.hands {σ τ : Store} {vs hs} (h : All2 (HandAt σ) vs hs) (k : Sub σ τ) : All2 (HandAt τ) vs hs := h.mono fun _ _ q => q.mono k
theorem All2.snoc {α β : Type} {P : α → β → Prop} {as : List α} {bs : List β} {a : α} {b : β} (h : All2 P as bs) (x : P a b) : All2 P (as ++ [a]) (bs ++ [b]) := h.append (.cons x .nil)
theorem hSt_sub {h h' : Heap} (k : h.StaysIn h') : Sub (hSt h) (hSt h') := fun a o e => k a o e
noncomputable def WayAt (σ : Store) (v : Value) (x : Int × St) : Prop := ∃ t k c, v = .ref t ∧ Tup σ t [.int x.1 k, .ref c] ∧ StandAt σ c x.2
noncomputable def WaysAt (σ : Store) (a : Addr) (ws : List (Int × St)) : Prop := ∃ vs, Lst σ a vs ∧ All2 (WayAt σ) vs ws
theorem WayAt.mono {σ τ : Store} {v o} (h : Sub σ τ) (x : WayAt σ v o) : WayAt τ v o := let ⟨t, k, c, e, y, z⟩ := x; ⟨t, k, c, e, y.mono h, z.mono h⟩
theorem WaysAt.mono {σ τ : Store} {a ws} (h : Sub σ τ) (x : WaysAt σ a ws) : WaysAt τ a ws := let ⟨vs, y, z⟩ := x; ⟨vs, y.mono h, z.mono fun _ _ q => q.mono h⟩
theorem news_app {h₀ h : Heap} {L : Addr} {a b : List (Addr × Obj)} (N : News h₀ L h a) (M : News h₀ L h b) : News h₀ L h (a ++ b) := fun p hp => (List.mem_append.mp hp).elim (N p) (M p)
theorem news_sub {h₀ h : Heap} {L : Addr} {a b : List (Addr × Obj)} (N : News h₀ L h a) (hs : ∀ p ∈ b, p ∈ a) : News h₀ L h b := fun p hp => N p (hs p hp)
theorem instAt_hs {σ : Store} {h₀ h : Heap} {L x C dx : Addr} {m : Str → Option Value} {news imm : List (Addr × Obj)} {od : Obj} {sl : Array (Option Value)} (F : Fr h₀ L h m) (N : News h₀ L h news) (hσ : Sub σ (hSt h₀)) (h1 : Hs σ imm x (⟨.ref C, some dx, .plain, sl⟩ : Obj)) (h2 : Hs σ imm dx od) (hs : ∀ p ∈ imm, p ∈ news) :
    InstAt h x ⟨.ref C, some dx, .plain, sl⟩ C (some od) := ⟨hs_sub F N hσ hs _ _ h1, rfl, rfl, hs_sub F N hσ hs _ _ h2⟩
theorem allNe_of {d : Addr} {l : List (Addr × Obj)} (h : AllLt d l) : ∀ p ∈ l, p.1 ≠ d := by
  induction l with
  | nil => exact fun _ hp => nomatch hp
  | cons q r ih => exact List.forall_mem_cons.mpr ⟨Nat.ne_of_lt h.1, ih h.2⟩
noncomputable def ToldAt (σ : Store) (v : Value) (st : St) : Prop := ∃ t t2 k1 k2 vs, v = .ref t ∧ Tup σ t [.int st.v k1, .int st.b k2, .ref t2] ∧ Tup σ t2 vs ∧ All2 (HandAt σ) vs st.hs
theorem ToldAt.mono {σ τ : Store} {v st} (h : Sub σ τ) (x : ToldAt σ v st) : ToldAt τ v st := let ⟨t, t2, k1, k2, vs, e, y, z, q⟩ := x; ⟨t, t2, k1, k2, vs, e, y.mono h, z.mono h, q.mono fun _ _ q => q.mono h⟩
/-- a stop for the walk: it goes no further here -/
noncomputable def Hold (p : Prop) : Prop := p
theorem hold {p : Prop} (h : Hold p) : p := h
end Mine
end
section
open PySem PySem.W PyProof.Rows PySem.Calls PyProof.V PySem.Spec
set_option maxRecDepth 100000
namespace Mine
/-! ## steps on lists and tuples whose length is not written -/
section
variable {prog : Program} {w : World} {A : Around} {E : Value → Shared → Prop} {s : Shared} {h₀ h : Heap} {L D : Addr} {m : Str → Option Value} {news news' : List (Addr × Obj)} {n : Nat}
theorem append_L {us : List Value} {x : Value} {Q : Value → Shared → Prop} (F : Fr h₀ L s.heap m) (N : News h₀ L s.heap news) (U : Upd D (listOf us.toArray n) (listOf (us ++ [x]).toArray (n + 1)) news news') (hz : us.length ≤ sizeLine)
    (h : ∀ h', Fr h₀ L h' m → News h₀ L h' news' → Q .none { s with heap := h' }) : wpAny (model prog w) A (call (.builtin "list.append") [.ref D, x]) Q E s := by
  have e : (us ++ [x]).toArray = us.toArray.push x := by simp
  rw [e] at U
  exact append_K F N U h (by simpa using hz)
theorem pop_L {p : List Value} {y : Value} {Q : Value → Shared → Prop} (F : Fr h₀ L s.heap m) (N : News h₀ L s.heap news) (U : Upd D (listOf (p ++ [y]).toArray n) (listOf p.toArray (n + 1)) news news') (hz : p.length < sizeLine)
    (h : ∀ h', Fr h₀ L h' m → News h₀ L h' news' → Q y { s with heap := h' }) : wpAny (model prog w) A (call (.builtin "list.pop") [.ref D]) Q E s :=
  kl_pop F N (kpa_last y p) U (by simp; omega) h
theorem last_L {p : List Value} {y : Value} {value slice : Expr} {t : Tok} {Q : Value → Shared → Prop} (hl : s.heap.IsList D (p ++ [y]).toArray) (h : Q y s)
    (hs : subscripted slice false (.ref D) (.int (-1) t) = operate [.ref D, .int (-1) t] (getItem (.ref D) (.int (-1) t)) := by with_unfolding_all rfl) :
    wpAny (model prog w) A (subscriptTail value slice (.ref D) (.int (-1) t)) Q E s :=
  tail_any hl.typeIs slot_list_getitem.lookup (wpAny_getItem_list_neg hl (by decide) (by simp; omega) (by decide) (by
    rw [show ((-1 : Int) + ((p ++ [y]).toArray.size : Nat)).toNat = p.length by simp; omega]; simp) h) hs
theorem item_L {us : List Value} {k : Int} {y : Value} {value slice : Expr} {t : Tok} {Q : Value → Shared → Prop} (hl : s.heap.IsList D us.toArray) (h0 : 0 ≤ k) (h1 : k < 2 ^ 63) (hx : us[k.toNat]? = some y) (h : Q y s)
    (hs : subscripted slice false (.ref D) (.int k t) = operate [.ref D, .int k t] (getItem (.ref D) (.int k t)) := by with_unfolding_all rfl) :
    wpAny (model prog w) A (subscriptTail value slice (.ref D) (.int k t)) Q E s :=
  tail_any hl.typeIs slot_list_getitem.lookup (wpAny_getItem_list hl h0 h1 (by simpa using hx) h) hs
theorem item_T {us : List Value} {k : Int} {j : Nat} {y : Value} {value slice : Expr} {t : Tok} {Q : Value → Shared → Prop} (hl : IsTup s.heap D us.toArray) (hlo : -(2 ^ 63) ≤ k) (hhi : k < 2 ^ 63) (hj : seqIndex? k us.length = some j) (hx : us[j]? = some y) (h : Q y s)
    (hs : subscripted slice false (.ref D) (.int k t) = operate [.ref D, .int k t] (getItem (.ref D) (.int k t)) := by with_unfolding_all rfl) :
    wpAny (model prog w) A (subscriptTail value slice (.ref D) (.int k t)) Q E s := item_tupleT hl hlo hhi hj hx h hs
theorem eqv_nil (ds : List PyData) : PyData.eqv (.list ds) (.list []) = ds.isEmpty := by cases ds <;> simp [PyData.eqv, PyData.eqvAll]
theorem eqNil {e : Addr} {us : List Value} {ds : List PyData} {as : List Addr} {k : Nat} {Q : Value → Shared → Prop} (hl : s.heap.get? D = some (listOf us.toArray n)) (he : s.heap.get? e = some (listOf #[] k)) (hr : ReadsAll s.heap us ds as) (hsh : SeqAt.shaped (.list ds) = true) (hu : A.units + 64 < cLine)
    (h : Q (.bool ds.isEmpty) s) : wpAny (model prog w) A (compareOp .Eq (.ref D) (.ref e)) Q E s :=
  eq_dataH (reads_list_at hl rfl rfl hr) (reads_list_at he rfl rfl .nil) hsh rfl hu (by rw [eqv_nil]; exact h)
theorem neNil {e : Addr} {us : List Value} {ds : List PyData} {as : List Addr} {k : Nat} {Q : Value → Shared → Prop} (hl : s.heap.get? D = some (listOf us.toArray n)) (he : s.heap.get? e = some (listOf #[] k)) (hr : ReadsAll s.heap us ds as) (hsh : SeqAt.shaped (.list ds) = true) (hu : A.units + 64 < cLine)
    (h : Q (.bool (!ds.isEmpty)) s) : wpAny (model prog w) A (compareOp .NotEq (.ref D) (.ref e)) Q E s :=
  ne_dataH (reads_list_at hl rfl rfl hr) (reads_list_at he rfl rfl .nil) hsh rfl hu (by rw [eqv_nil]; exact h)
end
/-! ## handlers as data -/
noncomputable def handD (x : Int × Int × Int) : PyData := .tuple [.int x.1, .int x.2.1, .int x.2.2]
theorem handAt_reads {h : Heap} {v : Value} {x : Int × Int × Int} (e : HandAt (hSt h) v x) : Reads h v (handD x) [] := by
  refine Classical.byContradiction fun hn9 => ?_
  obtain ⟨a, t1, t2, t3, rfl, n, ha⟩ := e
  (refine hn9 ?_; clear hn9)
  exact reads_tuple_at ha rfl rfl (.cons (.int _ _) (.cons (.int _ _) (.cons (.int _ _) .nil)))
theorem hands_reads {h : Heap} {vs : List Value} {hs : List (Int × Int × Int)} (e : All2 (HandAt (hSt h)) vs hs) : ReadsAll h vs (hs.map handD) [] := by
  induction e with
  | nil => exact .nil
  | cons x _ ih => exact .cons (handAt_reads x) ih
theorem hands_canLay : ∀ hs : List (Int × Int × Int), PyData.canLayAll0 (hs.map handD) = true
  | [] => rfl
  | x :: r => by simp [PyData.canLayAll0, handD, PyData.canLay0, hands_canLay r]
theorem hands_depth : ∀ hs : List (Int × Int × Int), PyData.depthAll (hs.map handD) ≤ 1
  | [] => by simp [PyData.depthAll]
  | x :: r => by
    have := hands_depth r
    simp [PyData.depthAll, handD, PyData.depth]
    omega
theorem hands_shaped (hs : List (Int × Int × Int)) : SeqAt.shaped (.list (hs.map handD)) = true := by
  have := hands_depth hs
  have e : (PyData.list (hs.map handD)).depth = PyData.depthAll (hs.map handD) + 1 := by simp [PyData.depth]
  exact Bool.and_eq_true_iff.mpr ⟨by simpa [PyData.canLay0] using hands_canLay hs, decide_eq_true (by omega)⟩
theorem All2.last {α β : Type} {P : α → β → Prop} {as : List α} {bs : List β} (h : All2 P as bs) : (as = [] ∧ bs = []) ∨ ∃ p y q z, as = p ++ [y] ∧ bs = q ++ [z] ∧ All2 P p q ∧ P y z := by
  induction h with
  | nil => exact .inl ⟨rfl, rfl⟩
  | cons x y ih =>
    rcases ih with ⟨rfl, rfl⟩ | ⟨p, y', q, z, rfl, rfl, h1, h2⟩
    · exact .inr ⟨[], _, [], _, rfl, rfl, .nil, x⟩
    · exact .inr ⟨_ :: p, y', _ :: q, z, rfl, rfl, .cons x h1, h2⟩
theorem readsAll_snocNe {h : Heap} {p : List Value} {y : Value} {ds : List PyData} {as : List Addr} (hr : ReadsAll h (p ++ [y]) ds as) : ds.isEmpty = false := by
  cases p with
  | nil => cases hr; rfl
  | cons x p => cases hr; rfl
section
variable {prog : Program} {w : World} {A : Around} {E : Value → Shared → Prop} {s : Shared} {D e : Addr} {n k : Nat} {p : List Value} {y : Value} {ds : List PyData} {as : List Addr} {Q : Value → Shared → Prop}
theorem eqNil_snoc (hl : s.heap.get? D = some (listOf (p ++ [y]).toArray n)) (he : s.heap.get? e = some (listOf #[] k)) (hr : ReadsAll s.heap (p ++ [y]) ds as) (hsh : SeqAt.shaped (.list ds) = true) (hu : A.units + 64 < cLine)
    (h : Q (.bool false) s) : wpAny (model prog w) A (compareOp .Eq (.ref D) (.ref e)) Q E s := eqNil hl he hr hsh hu (by rw [readsAll_snocNe hr]; exact h)
theorem neNil_snoc (hl : s.heap.get? D = some (listOf (p ++ [y]).toArray n)) (he : s.heap.get? e = some (listOf #[] k)) (hr : ReadsAll s.heap (p ++ [y]) ds as) (hsh : SeqAt.shaped (.list ds) = true) (hu : A.units + 64 < cLine)
    (h : Q (.bool true) s) : wpAny (model prog w) A (compareOp .NotEq (.ref D) (.ref e)) Q E s := neNil hl he hr hsh hu (by rw [readsAll_snocNe hr]; exact h)
theorem neNil_nil (hl : s.heap.get? D = some (listOf [].toArray n)) (he : s.heap.get? e = some (listOf #[] k)) (hu : A.units + 64 < cLine)
    (h : Q (.bool false) s) : wpAny (model prog w) A (compareOp .NotEq (.ref D) (.ref e)) Q E s := neNil hl he .nil rfl hu h
theorem eqNil_nil (hl : s.heap.get? D = some (listOf [].toArray n)) (he : s.heap.get? e = some (listOf #[] k)) (hu : A.units + 64 < cLine)
    (h : Q (.bool true) s) : wpAny (model prog w) A (compareOp .Eq (.ref D) (.ref e)) Q E s := eqNil hl he .nil rfl hu h
end
theorem readsAll_snoc {h : Heap} {d : PyData} {y : Value} : ∀ {p : List Value} {ds : List PyData} {as : List Addr}, ReadsAll h p ds as → Reads h y d [] → ReadsAll h (p ++ [y]) (ds ++ [d]) as
  | _, _, _, .nil, hy => by exact .cons hy .nil
  | _, _, _, .cons (as := as) (bs := bs) a b, hy => .cons a (readsAll_snoc b hy)
/-- what told() gives -/
noncomputable def toldD (st : St) : PyData := .tuple [.int st.v, .int st.b, .tuple (st.hs.map handD)]
theorem told_reads {h : Heap} {v : Value} {st : St} (e : ToldAt (hSt h) v st) : Reads h v (toldD st) [] := by
  refine Classical.byContradiction fun hn9 => ?_
  obtain ⟨t, t2, k1, k2, vs, rfl, ⟨n, h1⟩, ⟨n2, h2⟩, h3⟩ := e
  (refine hn9 ?_; clear hn9)
  exact reads_tuple_at h1 rfl rfl (readsAll_cons_val (.int _ _) (readsAll_cons_val (.int _ _) (readsAll_cons_val (reads_tuple_at h2 rfl rfl (hands_reads h3)) .nil)))
theorem told_shaped (st : St) : SeqAt.shaped (toldD st) = true := by
  have := hands_depth st.hs
  have e : (toldD st).depth = max (PyData.depthAll (st.hs.map handD) + 1) 0 + 1 := by simp [toldD, PyData.depth, PyData.depthAll]
  refine Bool.and_eq_true_iff.mpr ⟨by simp [toldD, PyData.canLay0, PyData.canLayAll0, hands_canLay], decide_eq_true (by omega)⟩
theorem eqvAll_self : ∀ hs : List (Int × Int × Int), PyData.eqvAll (hs.map handD) (hs.map handD) = true
  | [] => rfl
  | x :: r => by simp [PyData.eqvAll, handD, PyData.eqv, eqvAll_self r]
theorem told_eqv (st : St) : PyData.eqv (toldD st) (toldD st) = true := by simp [toldD, PyData.eqv, PyData.eqvAll, eqvAll_self]
end Mine
end
section
open PySem PySem.W PyProof.Rows PySem.Calls PyProof.V PySem.Spec
set_option maxRecDepth 100000
namespace Mine
section
variable {prog : Program} {w : World} {A : Around} {E : Value → Shared → Prop} {s : Shared} {h₀ h : Heap} {L D e : Addr} {m : Str → Option Value} {news news' imm : List (Addr × Obj)} {n k : Nat} {us : List Value} {σ : Store}
theorem neNilV {Q : Value → Shared → Prop} (hl : s.heap.IsList D us.toArray) (he : s.heap.IsList e #[]) (hu : A.units < cLine) (h : Q (.bool (!us.isEmpty)) s) :
    wpAny (model prog w) A (compareOp .NotEq (.ref D) (.ref e)) Q E s := by
  cases us with
  | nil => exact SeqAt.RcNeAt.lists (e := fun _ => true) hl he rfl hu (fun j h1 => absurd h1 (Nat.not_lt_zero _)) prog w E Q h
  | cons x r => exact SeqAt.RcNeAt.lists_lengths hl he (by simp) hu prog w E Q h
theorem eqNilV {Q : Value → Shared → Prop} (hl : s.heap.IsList D us.toArray) (he : s.heap.IsList e #[]) (hu : A.units < cLine) (h : Q (.bool us.isEmpty) s) :
    wpAny (model prog w) A (compareOp .Eq (.ref D) (.ref e)) Q E s := by
  cases us with
  | nil => exact SeqAt.RcAt.lists (e := fun _ => true) hl he rfl hu (fun j h1 => absurd h1 (Nat.not_lt_zero _)) prog w E Q h
  | cons x r => exact SeqAt.RcAt.lists_lengths hl he (by simp) hu prog w E Q h
theorem setItem_V {i : Int} {t : Tok} {v : Value} {Q : Unit → Shared → Prop} (F : Fr h₀ L s.heap m) (N : News h₀ L s.heap news) (U : Upd D (listOf us.toArray n) (listOf (us.set i.toNat v).toArray n) news news') (h0 : 0 ≤ i) (h1 : i < us.length) (hfit : i < 2 ^ 63)
    (h : ∀ h', Fr h₀ L h' m → News h₀ L h' news' → Q () { s with heap := h' }) : wpAny (model prog w) A (setItem (.ref D) (.int i t) v) Q E s := by
  refine Classical.byContradiction fun hn9 => ?_
  obtain ⟨pre, post, rfl, rfl, a, b⟩ := U.split
  (refine hn9 ?_; clear hn9)
  have z := N (D, listOf us.toArray n) (List.mem_append.mpr (.inr (.head _)))
  have hs : us.toArray.size = us.length := by simp
  refine ki_setAt z.1 h0 hfit (by omega) (h _ (F.change (Heap.SameBut.update ..) z.2.1 z.2.2) (ki_turn _ N a b ?_ ?_))
  · show us.toArray.setIfInBounds i.toNat v = (us.set i.toNat v).toArray
    apply Array.toList_inj.mp
    simp
  · simp
theorem extend_V {b : Addr} {vs : List Value} {Q : Value → Shared → Prop} (F : Fr h₀ L s.heap m) (N : News h₀ L s.heap news) (hb : s.heap.get? b = some (listOf vs.toArray k)) (nw : Nat → List (Addr × Obj)) (U : ∀ n', Upd D (listOf us.toArray n) (listOf (us ++ vs).toArray n') news (nw n'))
    (hz : us.length + vs.length ≤ 100000) (h : ∀ h' n', Fr h₀ L h' m → News h₀ L h' (nw n') → Q .none { s with heap := h' }) : wpAny (model prog w) A (call (.builtin "list.extend") [.ref D, .ref b]) Q E s := by
  have hd : ¬(!us.toArray.isEmpty && Builtin.List.listTooLong (us.toArray.size + vs.toArray.size)) = true := by
    simp [Builtin.List.listTooLong, sizeLine]
    intro _
    omega
  generalize hn : (if (us ++ vs).toArray.size == us.toArray.size then n else n + 1) = n'
  refine Classical.byContradiction fun hn9 => ?_
  obtain ⟨pre, post, e1, e2, a, c⟩ := (U n').split
  (refine hn9 ?_; clear hn9)
  subst e1
  have z := N (D, listOf us.toArray n) (List.mem_append.mpr (.inr (.head _)))
  refine call_meets PySem.F.slot_list_extend ⟨_, z.1, rfl⟩ PySem.F.entry_list_extend (PySem.F.args_list_extend_2 _ _) (PySem.AutoSeq1.list_extend_list_list_0 D us.toArray n b vs.toArray k hd (by simp [sizeLine]; omega) (by simp [sizeLine]; omega)) ⟨z.1, hb, h _ n' (F.change (Heap.SameBut.update ..) z.2.1 z.2.2) (e2 ▸ ki_turn _ N a c ?_ hn)⟩
  apply Array.toList_inj.mp
  simp
theorem isTup_hs {t : Addr} {items : List Value} (F : Fr h₀ L h m) (N : News h₀ L h news) (hσ : Sub σ (hSt h₀)) (ht : Tup (Hs σ imm) t items) (hs : ∀ p ∈ imm, p ∈ news) : IsTup h t items.toArray := (ht.mono (hs_sub F N hσ hs)).isTup
theorem isList_hs {σ : Store} {h₀ h : Heap} {L a : Addr} {m : Str → Option Value} {news imm : List (Addr × Obj)} {us : List Value} (F : Fr h₀ L h m) (N : News h₀ L h news) (hσ : Sub σ (hSt h₀)) (hl : Lst (Hs σ imm) a us) (hs : ∀ p ∈ imm, p ∈ news) : h.IsList a us.toArray := (hl.mono (hs_sub F N hσ hs)).isLst
theorem fold_rep (x : Value) : ∀ (k : Nat) (acc : Array Value), (List.foldl (fun x1 x2 => x1 ++ x2) acc (List.replicate k #[x])) = acc ++ (List.replicate k x).toArray
  | 0, acc => by simp
  | k + 1, acc => by
    rw [List.replicate_succ, List.foldl_cons, fold_rep x k, List.replicate_succ]
    apply Array.toList_inj.mp
    simp
theorem mul_one {x : Value} {i : Int} {u : Tok} {Q : Value → Shared → Prop} (F : Fr h₀ L s.heap m) (N : News h₀ L s.heap news) (hl : (D, listOf #[x] k) ∈ news) (h0 : 0 ≤ i) (h1 : i < 100000)
    (h : ∀ h' l, Fr h₀ L h' m → News h₀ L h' ((l, listOf (List.replicate i.toNat x).toArray 0) :: news) → (∀ p ∈ news, p.1 < l) → Q (.ref l) { s with heap := h' }) : wpAny (model prog w) A (binaryOp .Mult (.ref D) (.int i u)) Q E s := by
  refine mul_list F N (N _ hl).1 (by omega) (by omega) (by simp; omega) fun h' F' N' => h h' _ F' ?_ fun p hp => Heap.lt_size (N p hp).1
  have e := fold_rep x i.toNat #[]
  simp only [Array.isEmpty, List.size_toArray, List.length_cons, List.length_nil] at N'
  simpa [fold_rep] using N'
theorem len_V {Q : Value → Shared → Prop} (hl : s.heap.IsList D us.toArray) (hz : us.length ≤ 100000) (h : ∀ t tk, Q (.int us.length t) { s with toks := tk }) : wpAny (model prog w) A (call (.builtin "len") [.ref D]) Q E s := by
  refine len_list hl (by simp; omega) ?_
  simpa using h _ _
end
section
variable {prog : Program} {w : World} {A : Around} {E : Value → Shared → Prop} {s : Shared} {h₀ h : Heap} {L D e : Addr} {m : Str → Option Value} {news news' imm : List (Addr × Obj)} {n k : Nat} {us : List Value} {σ : Store}
theorem item_Ln {i : Nat} {y : Value} {value slice : Expr} {t : Tok} {Q : Value → Shared → Prop} (hl : s.heap.IsList D us.toArray) (hx : us[i]? = some y) (hz : i < 100000) (h : Q y s)
    (hs : subscripted slice false (.ref D) (.int (i : Int) t) = operate [.ref D, .int (i : Int) t] (getItem (.ref D) (.int (i : Int) t)) := by with_unfolding_all rfl) :
    wpAny (model prog w) A (subscriptTail value slice (.ref D) (.int (i : Int) t)) Q E s := item_L hl (by omega) (by omega) (by simpa using hx) h hs
theorem setItem_Vn {i : Nat} {t : Tok} {v : Value} {Q : Unit → Shared → Prop} (F : Fr h₀ L s.heap m) (N : News h₀ L s.heap news) (U : Upd D (listOf us.toArray n) (listOf (us.set i v).toArray n) news news') (h1 : i < us.length) (hz : i < 100000)
    (h : ∀ h', Fr h₀ L h' m → News h₀ L h' news' → Q () { s with heap := h' }) : wpAny (model prog w) A (setItem (.ref D) (.int (i : Int) t) v) Q E s :=
  setItem_V F N (by simpa using U) (by omega) (by omega) (by omega) h
end
theorem news_step {h₀ h : Heap} {L : Addr} {news new imm : List (Addr × Obj)} {e1 e2 : Addr × Obj} (N : News h₀ L h news) (M : News h₀ L h new) (h1 : e1 ∈ news) (h2 : e2 ∈ news) (hm : ∀ p ∈ imm, p ∈ news) : News h₀ L h (e1 :: e2 :: (new ++ imm)) := fun p hp => by
  rcases List.mem_cons.mp hp with rfl | hp
  · exact N _ h1
  · rcases List.mem_cons.mp hp with rfl | hp
    · exact N _ h2
    · rcases List.mem_append.mp hp with hp | hp
      · exact M _ hp
      · exact N _ (hm _ hp)
theorem off_new {h : Heap} {new imm : List (Addr × Obj)} {a : Addr} {o : Obj} (hf : ∀ p ∈ new, h.get? p.1 = none) (ha : h.get? a = some o) (hi : ∀ p ∈ imm, p.1 ≠ a) : ∀ p ∈ new ++ imm, p.1 ≠ a := fun p hp e => by
  rcases List.mem_append.mp hp with hp | hp
  · have := hf p hp; rw [e, ha] at this; cases this
  · exact hi p hp e
theorem hs_right {σ : Store} {new imm : List (Addr × Obj)} : Sub (Hs σ imm) (Hs σ (new ++ imm)) := hs_more fun _ h => List.mem_append_right _ h
theorem fr_eq {h₀ h : Heap} {L : Addr} {m m' : Str → Option Value} (F : Fr h₀ L h m) (e : ∀ y, m y = m' y) : Fr h₀ L h m' := (funext e : m = m') ▸ F
theorem All2.set {α β : Type} {P : α → β → Prop} {as : List α} {bs : List β} (h : All2 P as bs) {a : α} {b : β} (x : P a b) : ∀ i : Nat, All2 P (as.set i a) (bs.set i b) := by
  induction h with
  | nil => intro i; exact .nil
  | cons y r ih =>
    intro i
    cases i with
    | zero => exact .cons x r
    | succ i => exact .cons y (ih i)
theorem All2.get2 {α β : Type} {P : α → β → Prop} {as : List α} {bs : List β} (h : All2 P as bs) : ∀ {i : Nat} {a : α}, as[i]? = some a → ∃ b, bs[i]? = some b ∧ P a b := by
  induction h with
  | nil => intro i b e; simp at e
  | cons x _ ih =>
    intro i b e
    cases i with
    | zero => simp at e; subst e; exact ⟨_, rfl, x⟩
    | succ i => simp at e; exact ih e
theorem snoc_empty {α : Type} (p : List α) (y : α) : (!(p ++ [y]).isEmpty) = true := by cases p <;> rfl
theorem nil_empty {α : Type} : (!([] : List α).isEmpty) = false := rfl
end Mine
end
section
open PySem PySem.W PyProof.Rows PySem.Calls
set_option maxRecDepth 100000
namespace Mine
section
variable {prog : Program} {w : World} {A : Around} {s : Shared} {env : Env} {h₀ : Heap}
theorem fr_part {h h' : Heap} {L x y : Addr} {m : Str → Option Value} (F : Fr h₀ L h m) (k : ∀ b o, b ≠ x → b ≠ y → h.get? b = some o → h'.get? b = some o) (hx : L ≠ x) (hy : L ≠ y) (nx : h₀.get? x = none) (ny : h₀.get? y = none) : Fr h₀ L h' m :=
  ⟨F.ns.at' fun o e => k _ o hx hy e, fun b o e => k b o (fun q => by rw [q, nx] at e; cases e) (fun q => by rw [q, ny] at e; cases e) (F.keep b o e), F.above⟩
theorem news_part {h h' : Heap} {L x y : Addr} {news : List (Addr × Obj)} (N : News h₀ L h news) (k : ∀ b o, b ≠ x → b ≠ y → h.get? b = some o → h'.get? b = some o) (off : ∀ p ∈ news, p.1 ≠ x ∧ p.1 ≠ y) : News h₀ L h' news :=
  fun p hp => ⟨k _ _ (off p hp).1 (off p hp).2 (N p hp).1, (N p hp).2⟩
theorem codeAny_enum {R : Result → Shared → Prop} {xi xv : Str} {pi pv pt : Pos} {x1} {body : List Stmt} {e it l : Addr} {items : List Value} {m : Str → Option Value} {news : List (Addr × Obj)}
    (hh : A.handled = none) (hxi : env.kindOf xi = some .local) (hxv : env.kindOf xv = some .local)
    (hp : (env.scope.kind == .class || (env.scope.kind == .module && env.locals != env.globals)) = false)
    (hei : e ≠ it) (heL : env.locals ≠ e) (hiL : env.locals ≠ it) (he0 : h₀.get? e = none) (hi0 : h₀.get? it = none) (off : ∀ p ∈ news, p.1 ≠ e ∧ p.1 ≠ it) (hle : l ≠ e) (hli : l ≠ it)
    (he : IsEnum s.heap e it 0 .none) (hit : s.heap.IsListIter it l 0) (F : Fr h₀ env.locals s.heap m) (N : News h₀ env.locals s.heap news) (hl : ∀ h m, Fr h₀ env.locals h m → News h₀ env.locals h news → h.IsList l items.toArray)
    (J : Nat → (Str → Option Value) → Prop) (h0 : J 0 m)
    (step : ∀ i v tk m₁ h tk' oe oi, items[i]? = some v → J i m₁ → Fr h₀ env.locals h (fun y => if y = xv then some v else if y = xi then some (.int (i : Int) tk) else m₁ y) → News h₀ env.locals h ((e, oe) :: (it, oi) :: news) →
      wpAny (model prog w) A (execs body env) (fun f s₂ => match f with
        | .ret v => R (.ok (.ret v)) s₂
        | .brk => False
        | _ => ∃ h' tk' m₂, s₂ = { s with heap := h', toks := tk' } ∧ Fr h₀ env.locals h' m₂ ∧ News h₀ env.locals h' ((e, oe) :: (it, oi) :: news) ∧ J (i + 1) m₂) (notedBy (model prog w) A env fun e s' => R (.error e) s') { s with heap := h, toks := tk' })
    (done : ∀ h' tk m', Fr h₀ env.locals h' m' → News h₀ env.locals h' news → J items.length m' → R (.ok .next) { s with heap := h', toks := tk }) :
    codeAny (model prog w) A (.forLoop (.Tuple [.Name xi pi, .Name xv pv] x1 pt) (.ref e) body [] env) R s := by
  refine codeAny_forLoop_any
    (fun k s' => ∃ h' tk m' i old, s' = { s with heap := h', toks := tk } ∧ IsEnum h' e it ((i : Nat) : Int) old ∧ h'.IsListIter it l i ∧ Fr h₀ env.locals h' m' ∧ News h₀ env.locals h' news ∧ J i m' ∧ i ≤ items.length ∧ k = items.length + 1 - i)
    ?_ (items.length + 1) ⟨s.heap, s.toks, m, 0, .none, rfl, he, hit, F, N, h0, Nat.zero_le _, rfl⟩
  intro k s' hq2
  refine Classical.byContradiction fun hn9 => ?_
  obtain ⟨H, tk, m', i, old, rfl, he', hit', F', N', hJ, hi, rfl⟩ := hq2
  (refine hn9 ?_; clear hn9)
  have hl' := hl _ _ F' N'
  cases hv : items[i]? with
  | none =>
    have hsz : i = items.length := by have := List.getElem?_eq_none_iff.mp hv; omega
    refine wpAny_pyNext_enum_end hh he' hit' hl' (by simpa using hv) fun h₁ he₁ => wpAny_execs_nil ?_
    have k₁ : ∀ b o, b ≠ e → b ≠ it → H.get? b = some o → h₁.get? b = some o := fun b o _ h2 x => he₁ b o h2 x
    exact done h₁ tk m' (fr_part F' k₁ heL hiL he0 hi0) (news_part N' k₁ off) (hsz ▸ hJ)
  | some v =>
    have hlt : i < items.length := (List.getElem?_eq_some_iff.mp hv).1
    have heH : e < H.objs.size := Heap.lt_size he'
    refine Classical.byContradiction fun hn9 => ?_
    obtain ⟨oi, hoi, _⟩ := id hit'
    (refine hn9 ?_; clear hn9)
    have hiH : it < H.objs.size := Heap.lt_size hoi
    refine wpAny_pyNext_enum_item he' hit' hl' (by simpa using hv) hei fun h₁ heo hit₁ ht₁ hz₁ hk₁ => ?_
    have F₁ := fr_part F' hk₁ heL hiL he0 hi0
    have N₁ := news_part N' hk₁ off
    refine wpAny_letOwnedTupleGo_enum heo fun h₂ he₂ hs₂ => ?_
    replace hs₂ : Heap.SameBut e h₁ h₂ := hs₂
    have F₂ := F₁.change hs₂ (Ne.symm heL) he0
    have N₂ : News h₀ env.locals h₂ news := fun p hp => ⟨hs₂.extBut _ _ (off p hp).1 (N₁ p hp).1, (N₁ p hp).2⟩
    have ht₂ : h₂.IsTuple H.objs.size #[.int i tk, v] := ⟨_, (hs₂.2 _ (Nat.ne_of_gt heH)).trans ht₁, rfl, _, rfl⟩
    have hz₂ : h₂.objs.size = H.objs.size + 1 := hs₂.1.trans hz₁
    have hit₂ : h₂.IsListIter it l (i + 1) := hit₁.extBut hs₂.extBut (Ne.symm hei)
    refine Classical.byContradiction fun hn9 => ?_
    obtain ⟨oit, hoit, hoit1, hoit2⟩ := hit₂
    (refine hn9 ?_; clear hn9)
    refine Classical.byContradiction fun hn9 => ?_
    obtain ⟨oe, hoe, hoe'⟩ : ∃ oe, h₂.get? e = some oe ∧ (∀ h'' : Heap, h''.get? e = some oe → IsEnum h'' e it ((i : Int) + 1) v) := ⟨_, he₂, fun _ q => q⟩
    (refine hn9 ?_; clear hn9)
    have N₂' : News h₀ env.locals h₂ ((e, oe) :: (it, oit) :: news) := fun p hp => by
      rcases List.mem_cons.mp hp with rfl | hp
      · exact ⟨hoe, Ne.symm heL, he0⟩
      · rcases List.mem_cons.mp hp with rfl | hp
        · exact ⟨hoit, Ne.symm hiL, hi0⟩
        · exact N₂ p hp
    refine wpAny_assign_Tuple hh ht₂ rfl rfl fun h₃ hx₃ => ?_
    replace hx₃ : Heap.ExtBut h₂.objs.size h₂ h₃ := hx₃
    have F₃ := F₂.extBut hx₃ (Nat.le_refl _)
    have N₃ := N₂'.extBut hx₃ (Nat.le_refl _)
    show wpAny _ A (do holding [v] (assign (.Name xi pi) env (.int i tk)); do holding [] (assign (.Name xv pv) env v); pure ()) _ _ _
    refine wpAny_bind (wpAny_holding (wpAny_assign_Name (wpAny_storeName_local hxi F₃.ns (fun h₄ hn₄ hs₄ => ?_) hp)))
    have F₄ := F₃.set hn₄ hs₄
    have N₄ := N₃.set hs₄
    refine wpAny_bind (wpAny_holding (wpAny_assign_Name (wpAny_storeName_local hxv F₄.ns (fun h₅ hn₅ hs₅ => wpAny_pure ?_) hp)))
    have F₅ := F₄.set hn₅ hs₅
    have N₅ := N₄.set hs₅
    refine wpAny_mono (step i v tk m' h₅ _ _ _ hv hJ F₅ N₅) (fun f s₃ h₆ => ?_) fun _ _ x => x
    have fin : (∃ h' tk' m₂, s₃ = { s with heap := h', toks := tk' } ∧ Fr h₀ env.locals h' m₂ ∧ News h₀ env.locals h' ((e, oe) :: (it, oit) :: news) ∧ J (i + 1) m₂) →
        ∃ k, k < items.length + 1 - i ∧ ∃ h' tk m' i old, s₃ = { s with heap := h', toks := tk } ∧ IsEnum h' e it ((i : Nat) : Int) old ∧ h'.IsListIter it l i ∧ Fr h₀ env.locals h' m' ∧ News h₀ env.locals h' news ∧ J i m' ∧ i ≤ items.length ∧ k = items.length + 1 - i := by
      intro hq0
      refine Classical.byContradiction fun hn9 => ?_
      obtain ⟨h7, tk7, m₂, rfl, F7, N7, hJ7⟩ := hq0
      (refine hn9 ?_; clear hn9)
      refine ⟨items.length + 1 - (i + 1), Nat.sub_lt_sub_left (Nat.lt_succ_of_le (Nat.le_of_succ_le hlt)) (Nat.lt_succ_self i), h7, tk7, m₂, i + 1, v, rfl, ?_, ⟨oit, (N7 _ (.tail _ (.head _))).1, hoit1, hoit2⟩, F7, fun p hp => N7 p (.tail _ (.tail _ hp)), hJ7, hlt, rfl⟩
      have : ((i + 1 : Nat) : Int) = (i : Int) + 1 := by push_cast; rfl
      rw [this]
      exact hoe' _ (N7 _ (.head _)).1
    cases f with
    | ret v => exact h₆
    | brk => exact h₆.elim
    | next => exact fin h₆
    | cont => exact fin h₆
theorem enum_call {E : Value → Shared → Prop} {R : Result → Shared → Prop} {xi xv : Str} {pi pv pt : Pos} {x1} {body : List Stmt} {l : Addr} {items : List Value} {m : Str → Option Value} {news : List (Addr × Obj)}
    (hh : A.handled = none) (hxi : env.kindOf xi = some .local) (hxv : env.kindOf xv = some .local)
    (hp : (env.scope.kind == .class || (env.scope.kind == .module && env.locals != env.globals)) = false)
    (F : Fr h₀ env.locals s.heap m) (N : News h₀ env.locals s.heap news) (hl : ∀ h m, Fr h₀ env.locals h m → News h₀ env.locals h news → h.IsList l items.toArray)
    (J : Nat → (Str → Option Value) → Prop) (h0 : J 0 m)
    (step : ∀ i v tk m₁ h tk' e it oe oi, items[i]? = some v → J i m₁ → Fr h₀ env.locals h (fun y => if y = xv then some v else if y = xi then some (.int (i : Int) tk) else m₁ y) → News h₀ env.locals h ((e, oe) :: (it, oi) :: news) →
      wpAny (model prog w) A (execs body env) (fun f s₂ => match f with
        | .ret v => R (.ok (.ret v)) s₂
        | .brk => False
        | _ => ∃ h' tk' m₂, s₂ = { s with heap := h', toks := tk' } ∧ Fr h₀ env.locals h' m₂ ∧ News h₀ env.locals h' ((e, oe) :: (it, oi) :: news) ∧ J (i + 1) m₂) (notedBy (model prog w) A env fun e s' => R (.error e) s') { s with heap := h, toks := tk' })
    (done : ∀ h' tk m', Fr h₀ env.locals h' m' → News h₀ env.locals h' news → J items.length m' → R (.ok .next) { s with heap := h', toks := tk }) :
    wpAny (model prog w) A (call (.type "enumerate") [.ref l]) (fun x s₁ => wpAny (model prog w) A (pyIter x) (fun it s₂ => codeAny (model prog w) A (.forLoop (.Tuple [.Name xi pi, .Name xv pv] x1 pt) it body [] env) R s₂) E s₁) E s := by
  have hls := hl _ _ F N
  refine Classical.byContradiction fun hn9 => ?_
  obtain ⟨ol, hol, _⟩ := id hls
  (refine hn9 ?_; clear hn9)
  have hlz : l < s.heap.objs.size := Heap.lt_size hol
  have hLz := F.ns.lt
  have fresh : ∀ a : Addr, s.heap.objs.size ≤ a → h₀.get? a = none := fun a ha => by
    cases q : h₀.get? a with
    | none => rfl
    | some o => exact absurd (Heap.lt_size (F.keep _ _ q)) (Nat.not_lt.mpr ha)
  refine call_enumerate_list hls fun h' he hit hz hk => ?_
  refine wpAny_pyIter_enum he ?_
  exact codeAny_enum hh hxi hxv hp (Nat.succ_ne_self _) (Nat.ne_of_lt (Nat.lt_succ_of_lt hLz)) (Nat.ne_of_lt hLz) (fresh _ (Nat.le_succ _)) (fresh _ (Nat.le_refl _))
    (fun p hp => ⟨Nat.ne_of_lt (Nat.lt_succ_of_lt (Heap.lt_size (N p hp).1)), Nat.ne_of_lt (Heap.lt_size (N p hp).1)⟩) (Nat.ne_of_lt (Nat.lt_succ_of_lt hlz)) (Nat.ne_of_lt hlz) he hit (F.keeps hk) (N.grown hk) hl J h0
    (fun i v tk m₁ h tk' oe oi => step i v tk m₁ h tk' _ _ oe oi) done
end
section
variable {prog : Program} {w : World} {A : Around} {E : Value → Shared → Prop} {s : Shared} {h₀ : Heap} {L : Addr} {m : Str → Option Value} {news : List (Addr × Obj)}
theorem max3_V {a b c : Int} {t u x : Tok} {Q : Value → Shared → Prop} (hh : A.handled = none) (F : Fr h₀ L s.heap m) (N : News h₀ L s.heap news)
    (h : ∀ h' tk t', Fr h₀ L h' m → News h₀ L h' news → Q (.int (max (max a b) c) t') { s with heap := h', toks := tk }) :
    wpAny (model prog w) A (call (.builtin "max") [.int a t, .int b u, .int c x]) Q E s := by
  refine max_three_ints hh fun h' tk hk => ?_
  have key := fun tok => h h' tk tok (F.keeps hk) (N.grown hk)
  have e : max (max a b) c = if b > a then (if c > b then c else b) else (if c > a then c else a) := by
    split
    · rename_i h1
      rw [Int.max_eq_right (Int.le_of_lt h1)]
      split
      · rename_i h2; exact Int.max_eq_right (Int.le_of_lt h2)
      · rename_i h2; exact Int.max_eq_left (Int.not_lt.mp h2)
    · rename_i h1
      rw [Int.max_eq_left (Int.not_lt.mp h1)]
      split
      · rename_i h2; exact Int.max_eq_right (Int.le_of_lt h2)
      · rename_i h2; exact Int.max_eq_left (Int.not_lt.mp h2)
  rw [e] at key
  split
  · rename_i h1
    rw [if_pos h1] at key
    split
    · rename_i h2; rw [if_pos h2] at key; exact key _
    · rename_i h2; rw [if_neg h2] at key; exact key _
  · rename_i h1
    rw [if_neg h1] at key
    split
    · rename_i h2; rw [if_pos h2] at key; exact key _
    · rename_i h2; rw [if_neg h2] at key; exact key _
theorem max2_V {a b : Int} {t u : Tok} {Q : Value → Shared → Prop} (hh : A.handled = none) (F : Fr h₀ L s.heap m) (N : News h₀ L s.heap news)
    (h : ∀ h' tk t', Fr h₀ L h' m → News h₀ L h' news → Q (.int (max a b) t') { s with heap := h', toks := tk }) :
    wpAny (model prog w) A (call (.builtin "max") [.int a t, .int b u]) Q E s := by
  refine max_two_ints hh fun h' tk hk => ?_
  have key := fun tok => h h' tk tok (F.keeps hk) (N.grown hk)
  have e : max a b = if b > a then b else a := by
    split
    · rename_i h1; exact Int.max_eq_right (Int.le_of_lt h1)
    · rename_i h1; exact Int.max_eq_left (Int.not_lt.mp h1)
  rw [e] at key
  split
  · rename_i h1; rw [if_pos h1] at key; exact key _
  · rename_i h1; rw [if_neg h1] at key; exact key _
end
end Mine
end
section
open PySem PySem.W PyProof.Rows PySem.Calls PySem.Spec
set_option maxRecDepth 100000
namespace Mine
section
variable {PG : Program} {w : World} {A : Around} {s : Shared}
/-- a def some of whose names are cells; what stands in pre may be changed within -/
theorem enterC {R : Result → Shared → Prop} {name qual : Str} {params : Arguments} {body : List Stmt} {scope : Scope} {dV kV doc pm cdv ct oc : Value} {an od : Option Addr} {osl : Array (Option Value)} {f : Addr} {args : Args} {binds : List (Str × Value)} {K : Frag}
    (g : Heap) (pre : List (Addr × Obj)) (X : K.In g) (hlim : s.heap.NoLimit) (hk : g.StaysIn s.heap) (hsz : g.objs.size ≤ s.heap.objs.size) (hpre : ∀ p ∈ pre, s.heap.get? p.1 = some p.2 ∧ g.get? p.1 = none)
    (ho : K.lookup f = some ⟨oc, od, .func (fnOf name qual params body scope dV kV doc pm an cdv ct), osl⟩) (hcd : codeIn K cdv qual = true) (hroom : A.depth < recursionLimit)
    (hbind : BindsTo s (fnOf name qual params body scope dV kV doc pm an cdv ct) args binds)
    (hkind : (binds.all fun y => scope.names.lookup y.1 == some .local || scope.names.lookup y.1 == some .cell) = true) (hnd : ((cellsFrom 0 scope.names []).map (·.1)).Nodup)
    (h : ∀ L' h₁ tk cells, Fr g L' h₁ (bindL (envOfC qual scope L' f cdv).kindOf binds fun _ => none) → News g L' h₁ (cells ++ pre) → CellsAre (bindC (envOfC qual scope L' f cdv).kindOf binds fun _ => none) (cellsFrom (L' + 1) scope.names []) cells → (∀ p ∈ pre, p.1 < L') →
      wpAny (model PG w) (A.deeper (envOfC qual scope L' f cdv)) (execs body (envOfC qual scope L' f cdv))
        (fun fl s' => R (.ok (.ret (match fl with | .ret v => v | _ => .none))) s')
        (fun _ _ => False)
        { s with heap := h₁, toks := tk })
    (hco : scope.isCoroutine = false := by rfl) (hgen : scope.isGenerator = false := by rfl) (hkd : scope.kind = .function := by rfl) : codeAny (model PG w) A (.call (.ref f) args) R s := by
  have X' : K.In s.heap := X.keeps hk
  refine codeAny_call_function hroom (X' _ _ ho) rfl hco hgen rfl (codeRec_of X' hcd) (hbind _ _ _ _ ?_)
  refine wpAny_newFunctionEnv_cells hkd (kindsX hkind _) fun env' he s' x => ?_
  subst he
  refine ⟨hlim.keeps x.toInCall.keep, codeAny_func ?_⟩
  refine Classical.byContradiction fun hn9 => ?_
  obtain ⟨h₁, tk, rfl, _⟩ := x.done
  (refine hn9 ?_; clear hn9)
  have hk₁ := x.toInCall.keep
  refine Classical.byContradiction fun hn9 => ?_
  obtain ⟨cells, NC, Y⟩ := Cl.news (h₀ := s.heap) (Nat.le_refl _) fun n c hm => ⟨x.cell n c (lookup_of_mem_nodup (cellsFrom_names scope.names 0 (s.heap.objs.size + 1) [] [] rfl ▸ hnd) hm), x.above n c hm⟩
  (refine hn9 ?_; clear hn9)
  refine wpAny_mono (h s.heap.objs.size h₁ tk cells ⟨x.toInCall.ns, fun b o e => hk₁ b o (hk b o e), hsz⟩ (fun p hp => ?_) Y fun p hp => Heap.lt_size (hpre p hp).1) (fun _ _ y => y) fun _ _ y => y.elim
  rcases List.mem_append.mp hp with hp | hp
  · refine ⟨(NC p hp).1, (NC p hp).2.1, ?_⟩
    cases q : g.get? p.1 with
    | none => rfl
    | some o => have := hk _ _ q; rw [(NC p hp).2.2] at this; cases this
  · exact ⟨hk₁ _ _ (hpre p hp).1, Nat.ne_of_lt (Heap.lt_size (hpre p hp).1), (hpre p hp).2⟩
end
noncomputable abbrev Em0 : Store := fun _ _ => False
/-- the callee's base: the heap without what the caller's ledger names -/
theorem hide_base {h₀ h : Heap} {L : Addr} {m : Str → Option Value} {imm : List (Addr × Obj)} (F : Fr h₀ L h m) (N : News h₀ L h imm) :
    h₀.StaysIn (hideAll h (imm.map (·.1))) ∧ (hideAll h (imm.map (·.1))).StaysIn h ∧ (∀ p ∈ imm, h.get? p.1 = some p.2 ∧ (hideAll h (imm.map (·.1))).get? p.1 = none) := by
  refine ⟨fun b o e => hideAll_get _ (F.keep b o e) fun q => ?_, fun b o e => of_hideAll _ e, fun p hp => ⟨(N p hp).1, hideAll_none _ (List.mem_map_of_mem hp)⟩⟩
  refine Classical.byContradiction fun hn9 => ?_
  obtain ⟨p, hp, rfl⟩ := List.mem_map.mp q
  (refine hn9 ?_; clear hn9)
  rw [(N p hp).2.2] at e; cases e
theorem hide_stays {h h' : Heap} {imm : List (Addr × Obj)} (k : (hideAll h (imm.map (·.1))).StaysIn h') (hm : ∀ p ∈ imm, h.get? p.1 = some p.2 ∧ h'.get? p.1 = some p.2) : h.StaysIn h' := fun b o e => by
  by_cases q : b ∈ imm.map (·.1)
  · refine Classical.byContradiction fun hn9 => ?_
    obtain ⟨p, hp, rfl⟩ := List.mem_map.mp q
    (refine hn9 ?_; clear hn9)
    have := hm p hp
    rw [this.1] at e; cases e
    exact this.2
  · exact k b o (hideAll_get _ e q)
theorem hide_ext {h h' g : Heap} {L : Addr} {imm news : List (Addr × Obj)} (hg : hideAll h (imm.map (·.1)) = g) (N : News g L h' news) (hs : ∀ p ∈ imm, p ∈ news) : Sub (Hs Em0 news) (Ext (Hs Em0 imm) h h') := fun a o e => by
  rcases e with e | e
  · exact e.elim
  · by_cases q : a ∈ imm.map (·.1)
    · refine Classical.byContradiction fun hn9 => ?_
      obtain ⟨p, hp, rfl⟩ := List.mem_map.mp q
      (refine hn9 ?_; clear hn9)
      have h1 := (N _ (hs p hp)).1
      have h2 := (N _ e).1
      rw [h1] at h2; cases h2
      exact .inl (.inr hp)
    · refine .inr ⟨?_, (N _ e).1⟩
      cases r : h.get? a with
      | none => rfl
      | some o' => have := (N _ e).2.2; rw [← hg, hideAll_get _ r q] at this; cases this
theorem hide_stays' {h h' g : Heap} {L : Addr} {imm news : List (Addr × Obj)} (hg : hideAll h (imm.map (·.1)) = g) (k : g.StaysIn h') (N : News g L h' news) (hs : ∀ p ∈ imm, p ∈ news) (hm : ∀ p ∈ imm, h.get? p.1 = some p.2) : h.StaysIn h' :=
  hide_stays (hg ▸ k) fun p hp => ⟨hm p hp, (N p (hs p hp)).1⟩
open LCg in
theorem compP_all {prog : Program} {w : World} {A : Around} {h₀ : Heap} {L : Addr} {m : Str → Option Value} {env : Env} {elt : Expr} {x x₂ : Str} {scope : Scope} {cl : List (Str × Addr)} {s : Shared} {S : List (Addr × Obj) → Prop} {Fin : List Value → List (Addr × Obj) → Prop} {vs : List Value} {c : Addr × Obj} {imm : List (Addr × Obj)}
    (Inv : List (Addr × Obj) → List Value → Nat → Prop)
    (step : ∀ i v ys imm', vs[i]? = some v → (∀ p ∈ imm, p ∈ imm') → Inv imm' ys i → ∃ (t : Addr) (ot : Obj) (v₁ v₂ : Value) (nt : Nat), v = .ref t ∧ (t, ot) ∈ c :: imm' ∧ ot.cls = .type "tuple" ∧ ot.data = .seq #[v₁, v₂] nt ∧
      ∀ I oI C oC D m₂ h tk (E' : Value → Shared → Prop), NsObj oC m₂ → m₂ x = some v₁ → m₂ x₂ = some v₂ → Fr h₀ L h m → News h₀ L h ((I, oI) :: (C, oC) :: (D, lst ys) :: c :: imm') → Off3 I C D (c :: imm') → ((@Ne Nat I C) ∧ (@Ne Nat I D) ∧ (@Ne Nat C D)) →
      wpAny (model prog w) A (eval elt (compEnvC scope cl C env)) (CompEnd h₀ L m { s with heap := h, toks := tk } I oI C oC D (lst ys) S (fun y news' => ∃ imm'', news' = c :: imm'' ∧ (∀ p ∈ imm, p ∈ imm'') ∧ Inv imm'' (ys ++ [y]) (i + 1))) E' { s with heap := h, toks := tk })
    (fin : ∀ ys imm', (∀ p ∈ imm, p ∈ imm') → Inv imm' ys vs.length → Fin ys (c :: imm')) (h0 : Inv imm [] 0) :
    LCp.CompRestP prog w A h₀ L m env elt x x₂ scope cl s S (fun i v => vs.toArray[i]? = some v) Fin vs.toArray.size 0 [] (c :: imm) := by
  have gen : ∀ (j i : Nat) (ys : List Value) (imm' : List (Addr × Obj)), i + j = vs.length → (∀ p ∈ imm, p ∈ imm') → Inv imm' ys i →
      LCp.CompRestP prog w A h₀ L m env elt x x₂ scope cl s S (fun i v => vs.toArray[i]? = some v) Fin j i ys (c :: imm') := by
    intro j
    induction j with
    | zero => intro i ys imm' e hs hi; exact LCp.CompRestP.zero (fin ys imm' hs ((show i = vs.length by omega) ▸ hi))
    | succ j ih =>
      intro i ys imm' e hs hi
      refine LCp.CompRestP.succ fun v hv => ?_
      refine Classical.byContradiction fun hn9 => ?_
      obtain ⟨t, ot, v₁, v₂, nt, e1, e2, e3, e4, e5⟩ := step i v ys imm' (by simpa using hv) hs hi
      (refine hn9 ?_; clear hn9)
      refine ⟨t, ot, v₁, v₂, nt, e1, e2, e3, e4, fun I oI C oC D m₂ h tk E' a1 a2 a3 a4 a5 a6 a7 => wpAny_mono (e5 I oI C oC D m₂ h tk E' a1 a2 a3 a4 a5 a6 a7) (fun y s₂ hy => ?_) fun _ _ q => q⟩
      refine Classical.byContradiction fun hn9 => ?_
      obtain ⟨h', tk', news', b1, b2, b3, b4, b5, imm'', rfl, b7, b8⟩ := hy
      (refine hn9 ?_; clear hn9)
      exact ⟨h', tk', _, b1, b2, b3, b4, b5, ih (i + 1) _ imm'' (by omega) b7 b8⟩
  have := gen vs.length 0 [] imm (by omega) (fun _ h => h) h0
  simpa using this
end Mine
end
section
open PySem PySem.W PyProof.Rows PySem.Calls
set_option maxRecDepth 100000
namespace Mine
section
variable {prog : Program} {w : World} {A : Around} {s : Shared} {env : Env} {h₀ : Heap}
/-- a for over a list whose length is not written; the ledger may grow -/
theorem list_for {E : Value → Shared → Prop} {R : Result → Shared → Prop} {x : Str} {px : Pos} {body : List Stmt} {l : Addr} {items : List Value} {m : Str → Option Value} {news : List (Addr × Obj)}
    (hh : A.handled = none) (hx : env.kindOf x = some .local)
    (hp : (env.scope.kind == .class || (env.scope.kind == .module && env.locals != env.globals)) = false)
    (F : Fr h₀ env.locals s.heap m) (N : News h₀ env.locals s.heap news)
    (J : Nat → (Str → Option Value) → List (Addr × Obj) → Prop) (h0 : J 0 m news) (hl : ∀ i h m news, J i m news → Fr h₀ env.locals h m → News h₀ env.locals h news → h.IsList l items.toArray)
    (step : ∀ i v m₁ news₁ h tk' I oi, items[i]? = some v → J i m₁ news₁ → (∀ p ∈ news₁, p.1 ≠ I) → Fr h₀ env.locals h (fun y => if y = x then some v else m₁ y) → News h₀ env.locals h ((I, oi) :: news₁) →
      wpAny (model prog w) A (execs body env) (fun f s₂ => match f with
        | .ret v => R (.ok (.ret v)) s₂
        | .brk => False
        | _ => ∃ h' tk' m₂ news₂, s₂ = { s with heap := h', toks := tk' } ∧ Fr h₀ env.locals h' m₂ ∧ News h₀ env.locals h' ((I, oi) :: news₂) ∧ (∀ p ∈ news₂, p.1 ≠ I) ∧ J (i + 1) m₂ news₂) (notedBy (model prog w) A env fun e s' => R (.error e) s') { s with heap := h, toks := tk' })
    (done : ∀ h' tk m' news', Fr h₀ env.locals h' m' → News h₀ env.locals h' news' → J items.length m' news' → R (.ok .next) { s with heap := h', toks := tk }) :
    wpAny (model prog w) A (pyIter (.ref l)) (fun it s₂ => codeAny (model prog w) A (.forLoop (.Name x px) it body [] env) R s₂) E s := by
  have hls := hl _ _ _ _ h0 F N
  refine Classical.byContradiction fun hn9 => ?_
  obtain ⟨ol, hol, _⟩ := id hls
  (refine hn9 ?_; clear hn9)
  have hlz : l < s.heap.objs.size := Heap.lt_size hol
  have hLz := F.ns.lt
  refine wpAny_pyIter_list hls ?_
  have hI0 : h₀.get? s.heap.objs.size = none := by
    cases q : h₀.get? s.heap.objs.size with
    | none => rfl
    | some o => exact absurd (Heap.lt_size (F.keep _ _ q)) (Nat.lt_irrefl _)
  have hIL : env.locals ≠ s.heap.objs.size := Nat.ne_of_lt hLz
  have hlI : l ≠ s.heap.objs.size := Nat.ne_of_lt hlz
  generalize hI : s.heap.objs.size = I at *
  refine codeAny_forLoop_any
    (fun k s' => ∃ h' tk m' news' i, s' = { s with heap := h', toks := tk } ∧ h'.IsListIter I l i ∧ Fr h₀ env.locals h' m' ∧ News h₀ env.locals h' news' ∧ (∀ p ∈ news', p.1 ≠ I) ∧ J i m' news' ∧ i ≤ items.length ∧ k = items.length + 1 - i)
    ?_ (items.length + 1) ⟨_, s.toks, m, news, 0, rfl, ⟨_, by rw [← hI]; exact Heap.get?_push_size _ rfl, rfl, rfl⟩, F.push _, fun p hp => ⟨Heap.get?_push_of_some _ (N p hp).1, (N p hp).2⟩, fun p hp => Nat.ne_of_lt (hI ▸ Heap.lt_size (N p hp).1), h0, Nat.zero_le _, rfl⟩
  intro k s' hq2
  refine Classical.byContradiction fun hn9 => ?_
  obtain ⟨H, tk, m', news', i, rfl, hit', F', N', off, hJ, hi, rfl⟩ := hq2
  (refine hn9 ?_; clear hn9)
  have hl' := hl _ _ _ _ hJ F' N'
  cases hv : items[i]? with
  | none =>
    have hsz : i = items.length := by have := List.getElem?_eq_none_iff.mp hv; omega
    refine wpAny_pyNext_list_end hh hit' hl' (by simpa using hv) fun h₁ he₁ => wpAny_execs_nil ?_
    have k₁ : ∀ b o, b ≠ I → b ≠ I → H.get? b = some o → h₁.get? b = some o := fun b o _ h2 x => he₁ b o h2 x
    exact done h₁ tk m' news' (fr_part F' k₁ hIL hIL hI0 hI0) (news_part N' k₁ fun p hp => ⟨off p hp, off p hp⟩) (hsz ▸ hJ)
  | some v =>
    have hlt : i < items.length := (List.getElem?_eq_some_iff.mp hv).1
    refine wpAny_pyNext_list_item hit' hl' (by simpa using hv) fun h₁ hit₁ hs₁ => ?_
    have F₁ := F'.change hs₁ (Ne.symm hIL) hI0
    have N₁ : News h₀ env.locals h₁ news' := fun p hp => ⟨hs₁.extBut _ _ (off p hp) (N' p hp).1, (N' p hp).2⟩
    refine Classical.byContradiction fun hn9 => ?_
    obtain ⟨oit, hoit, hoit1, hoit2⟩ := hit₁
    (refine hn9 ?_; clear hn9)
    have N₁' : News h₀ env.locals h₁ ((I, oit) :: news') := fun p hp => by
      rcases List.mem_cons.mp hp with rfl | hp
      · exact ⟨hoit, Ne.symm hIL, hI0⟩
      · exact N₁ p hp
    refine wpAny_pure ?_
    refine wpAny_assign_Name (wpAny_storeName_local hx F₁.ns (fun h₄ hn₄ hs₄ => ?_) hp)
    have F₄ := F₁.set hn₄ hs₄
    have N₄ := N₁'.set hs₄
    refine wpAny_mono (step i v m' news' h₄ _ I oit hv hJ off F₄ N₄) (fun f s₃ h₆ => ?_) fun _ _ x => x
    have fin : (∃ h' tk' m₂ news₂, s₃ = { s with heap := h', toks := tk' } ∧ Fr h₀ env.locals h' m₂ ∧ News h₀ env.locals h' ((I, oit) :: news₂) ∧ (∀ p ∈ news₂, p.1 ≠ I) ∧ J (i + 1) m₂ news₂) →
        ∃ k, k < items.length + 1 - i ∧ ∃ h' tk m' news' i, s₃ = { s with heap := h', toks := tk } ∧ h'.IsListIter I l i ∧ Fr h₀ env.locals h' m' ∧ News h₀ env.locals h' news' ∧ (∀ p ∈ news', p.1 ≠ I) ∧ J i m' news' ∧ i ≤ items.length ∧ k = items.length + 1 - i := by
      intro hq0
      refine Classical.byContradiction fun hn9 => ?_
      obtain ⟨h7, tk7, m7, news7, rfl, F7, N7, off7, hJ7⟩ := hq0
      (refine hn9 ?_; clear hn9)
      exact ⟨items.length + 1 - (i + 1), Nat.sub_lt_sub_left (Nat.lt_succ_of_le (Nat.le_of_succ_le hlt)) (Nat.lt_succ_self i), h7, tk7, m7, news7, i + 1, rfl, ⟨oit, (N7 _ (.head _)).1, hoit1, hoit2⟩, F7, fun p hp => N7 p (.tail _ hp), off7, hJ7, hlt, rfl⟩
    cases f with
    | ret v => exact h₆
    | brk => exact h₆.elim
    | next => exact fin h₆
    | cont => exact fin h₆
end
end Mine
end
section
open PySem PySem.W PyProof.Rows PySem.Calls
open AutoSeq1 (wpAny_loadPart')
set_option maxRecDepth 100000
namespace Mine
section
variable {prog : Program} {w : World} {A : Around} {E : Value → Shared → Prop} {s : Shared}
theorem tupIter_at {h h' : Heap} {it t : Addr} {i : Nat} (x : IsTupIter h it t i) (k : ∀ o, h.get? it = some o → h'.get? it = some o) : IsTupIter h' it t i := let ⟨o, ho, r⟩ := x; ⟨o, k o ho, r⟩
theorem nextOf_tup {it t : Addr} {i : Nat} {items : Array Value} {x : Value} {Q : Value → Shared → Prop} (hit : IsTupIter s.heap it t i) (ht : IsTup s.heap t items) (hx : items[i]? = some x)
    (hQ : ∀ h', IsTupIter h' it t (i + 1) → Heap.SameBut it s.heap h' → Q x { s with heap := h' }) : wpAny (model prog w) A (Builtin.SmallTypes.nextOf (.ref it)) Q E s := by
  refine Classical.byContradiction fun hn9 => ?_
  obtain ⟨o, ho, hc, hd⟩ := id hit
  (refine hn9 ?_; clear hn9)
  refine Classical.byContradiction fun hn9 => ?_
  obtain ⟨ot, hot, _, nt, hdt⟩ := ht
  (refine hn9 ?_; clear hn9)
  unfold Builtin.SmallTypes.nextOf
  refine wpAny_bind (wpAny_callSpecial?_slot (name := Str.ofString "__next__") hit.typeIs slot_tupleiter_next (wpAny_call_entry slot_tupleiter_next hit.typeIs entry_tupleiter_next ?_ (args_tupleiter_next _)))
  show wpAny _ _ (field (.ref it) 0 >>= _) _ _ s
  refine wpAny_bind (wpAny_field ho hd (x := .ref t) rfl ?_)
  show wpAny _ _ (if (Value.ref t == Value.none) = true then _ else _) _ _ s
  rw [if_neg (show ¬ ((Value.ref t == Value.none) = true) from Bool.false_ne_true)]
  show wpAny _ _ (field (.ref it) 1 >>= _) _ _ s
  refine wpAny_bind (wpAny_field ho hd (x := .int i 0) rfl ?_)
  show wpAny _ _ (seqItems? (.ref t) >>= _) _ _ s
  refine wpAny_bind (wpAny_seqItems hot hdt ?_)
  simp only [Int.toNat_natCast, hx]
  refine wpAny_bind (wpAny_setField ho hd (by simp) (wpAny_pure ⟨x, rfl, wpAny_pure (hQ _ ?_ (Heap.SameBut.update ..))⟩))
  exact ⟨_, Heap.get?_update_self _ ho (Obj.isFreed_of_fields (Obj.data_mapFields hd _)), (Obj.cls_mapFields ..).trans hc, by rw [Obj.data_mapFields hd]; simp [rawInt]⟩
theorem enumNext_tup {e it t : Addr} {i : Nat} {items : Array Value} {x old : Value} {Q : Option Value → Shared → Prop} (he : IsEnum s.heap e it i old) (hit : IsTupIter s.heap it t i) (ht : IsTup s.heap t items) (hx : items[i]? = some x) (hne : e ≠ it)
    (hQ : ∀ h', IsEnumOut h' e it ((i : Int) + 1) x s.heap.objs.size → IsTupIter h' it t (i + 1) → h'.get? s.heap.objs.size = some { cls := .type "tuple", data := .seq #[.int i s.toks, x] } → h'.objs.size = s.heap.objs.size + 1 →
      (∀ b o, b ≠ e → b ≠ it → s.heap.get? b = some o → h'.get? b = some o) → Q (some (.ref s.heap.objs.size)) { s with heap := h', toks := s.toks + 1 }) :
    wpAny (model prog w) A (pyNext (.ref e)) Q E s := by
  have hT : s.TypeIs (.ref e) "enumerate" := ⟨_, he, rfl⟩
  refine Classical.byContradiction fun hn9 => ?_
  obtain ⟨hp, g, d, tk, os⟩ := s
  (refine hn9 ?_; clear hn9)
  unfold pyNext
  refine wpAny_bind (wpAny_attempt (wpAny_callSpecial?_slot (name := Str.ofString "__next__") hT PySem.F.slot_enumerate_next (wpAny_call_entry PySem.F.slot_enumerate_next hT PySem.F.entry_enumerate_next ?_ (PySem.F.args_enumerate_next_1 _))))
  show wpAny _ _ (field (.ref e) 2 >>= _) _ _ _
  refine wpAny_bind (wpAny_field he rfl (x := .ref it) rfl ?_)
  refine wpAny_bind (nextOf_tup hit ht hx fun h₁ hit₁ hs₁ => ?_)
  replace hs₁ : Heap.SameBut it hp h₁ := hs₁
  have he₁ : IsEnum h₁ e it i old := (hs₁.2 e hne).trans he
  show wpAny _ _ (field (.ref e) 3 >>= _) _ _ ⟨h₁, g, d, tk, os⟩
  refine wpAny_bind (wpAny_field he₁ rfl (x := rawInt i) rfl ?_)
  show wpAny _ _ (field (.ref e) 4 >>= _) _ _ ⟨h₁, g, d, tk, os⟩
  refine wpAny_bind (wpAny_field he₁ rfl (x := .none) rfl ?_)
  show wpAny _ _ (mkInt i >>= _) _ _ ⟨h₁, g, d, tk, os⟩
  refine wpAny_bind (wpAny_mkInt ?_)
  show wpAny _ _ (setField (.ref e) 3 (rawInt ((i : Int) + 1)) >>= _) _ _ ⟨h₁, g, d, tk + 1, os⟩
  refine wpAny_bind (wpAny_setField_rec he₁ (by simp) fun h₂ he₂ hs₂ => ?_)
  replace hs₂ : Heap.SameBut e h₁ h₂ := hs₂
  replace he₂ : IsEnum h₂ e it ((i : Int) + 1) old := he₂
  show wpAny _ _ (setField (.ref e) 4 .none >>= _) _ _ ⟨h₂, g, d, tk + 1, os⟩
  refine wpAny_bind (wpAny_setField_rec he₂ (by simp) fun h₃ he₃ hs₃ => ?_)
  replace hs₃ : Heap.SameBut e h₂ h₃ := hs₃
  replace he₃ : IsEnum h₃ e it ((i : Int) + 1) old := he₃
  have hsz : h₃.objs.size = hp.objs.size := by rw [hs₃.1, hs₂.1, hs₁.1]
  have hel : e < hp.objs.size := Heap.lt_size he
  have up₃ : ∀ b o, b ≠ e → b ≠ it → hp.get? b = some o → h₃.get? b = some o := fun b o b1 b2 q => hs₃.extBut b o b1 (hs₂.extBut b o b1 (hs₁.extBut b o b2 q))
  have hit₃ : IsTupIter h₃ it t (i + 1) := tupIter_at hit₁ fun o q => hs₃.extBut _ o (Ne.symm hne) (hs₂.extBut _ o (Ne.symm hne) q)
  show wpAny _ _ (newTuple [.int i tk, x] >>= _) _ _ ⟨h₃, g, d, tk + 1, os⟩
  refine wpAny_bind (wpAny_newTuple ?_)
  have he₄ : IsEnum (h₃.push { cls := .type "tuple", data := .seq #[.int i tk, x] }) e it ((i : Int) + 1) old := Heap.get?_push_of_some _ he₃
  have ht₄ : (h₃.push { cls := .type "tuple", data := .seq #[.int i tk, x] }).get? hp.objs.size = some { cls := .type "tuple", data := .seq #[.int i tk, x] } := by rw [← hsz]; exact Heap.get?_push_size _ rfl
  have hz₄ : (h₃.push { cls := .type "tuple", data := .seq #[.int i tk, x] }).objs.size = hp.objs.size + 1 := by rw [Heap.size_push, hsz]
  have up₄ : ∀ b o, b ≠ e → b ≠ it → hp.get? b = some o → (h₃.push { cls := .type "tuple", data := .seq #[.int i tk, x] }).get? b = some o := fun b o b1 b2 q => Heap.get?_push_of_some _ (up₃ b o b1 b2 q)
  have hit₄ : IsTupIter (h₃.push { cls := .type "tuple", data := .seq #[.int i tk, x] }) it t (i + 1) := tupIter_at hit₃ fun o q => Heap.get?_push_of_some _ q
  rw [hsz]
  generalize h₃.push { cls := .type "tuple", data := .seq #[.int i tk, x] } = h₄ at he₄ ht₄ hz₄ up₄ hit₄
  show wpAny _ _ (Builtin.SmallTypes.ownedTupleIsFree (.ref e) >>= _) _ _ ⟨h₄, g, d, tk + 1, os⟩
  refine wpAny_bind ?_
  unfold Builtin.SmallTypes.ownedTupleIsFree
  refine wpAny_bind (wpAny_field he₄ rfl (x := .none) rfl (wpAny_pure ?_))
  simp only [if_true]
  refine wpAny_bind (wpAny_rule ?_)
  refine wpAny_bind (wpAny_field he₄ rfl (x := old) rfl ?_)
  refine wpAny_bind (wpAny_setField_rec he₄ (by simp) fun h₅ he₅ hs₅ => ?_)
  replace hs₅ : Heap.SameBut e h₄ h₅ := hs₅
  replace he₅ : IsEnum h₅ e it ((i : Int) + 1) x := he₅
  show wpAny _ _ (Builtin.SmallTypes.ownedTupleHandOut (.ref e) (.ref hp.objs.size) >>= _) _ _ ⟨h₅, g, d, tk + 1, os⟩
  refine wpAny_bind ?_
  unfold Builtin.SmallTypes.ownedTupleHandOut
  refine wpAny_bind (wpAny_setField_rec he₅ (by simp) fun h₆ he₆ hs₆ => ?_)
  replace hs₆ : Heap.SameBut e h₅ h₆ := hs₆
  replace he₆ : IsEnumOut h₆ e it ((i : Int) + 1) x hp.objs.size := he₆
  refine wpAny_setField_rec he₆ (by simp) fun h₇ he₇ hs₇ => ?_
  replace hs₇ : Heap.SameBut e h₆ h₇ := hs₇
  replace he₇ : IsEnumOut h₇ e it ((i : Int) + 1) x hp.objs.size := he₇
  have up : ∀ b o, b ≠ e → h₄.get? b = some o → h₇.get? b = some o := fun b o b1 q => hs₇.extBut b o b1 (hs₆.extBut b o b1 (hs₅.extBut b o b1 q))
  refine wpAny_bind (wpAny_letGo (wpAny_pure ⟨_, rfl, wpAny_pure (hQ h₇ he₇ ?_ ?_ ?_ ?_)⟩))
  · exact tupIter_at hit₄ fun o q => up _ o (Ne.symm hne) q
  · exact up _ _ (Nat.ne_of_gt hel) ht₄
  · rw [hs₇.1, hs₆.1, hs₅.1, hz₄]
  · exact fun b o b1 b2 q => up b o b1 (up₄ b o b1 b2 q)
end
theorem enumNew_tup (l : Addr) (items : Array Value) (n : Nat) (dct : Option Addr) (sl : Array (Option Value)) :
    Meets (Builtin.«enumerate.__new__» ⟨[.type "enumerate", .ref l], []⟩) (fun _ R s => s.heap.get? l = some { cls := .type "tuple", dict := dct, data := .seq items n, slots := sl } ∧
      R (.ok (.ret (.ref (s.heap.push { cls := .type "tuple_iterator", data := .fields #[.ref l, .int 0 0] }).objs.size)))
        { s with heap := (s.heap.push { cls := .type "tuple_iterator", data := .fields #[.ref l, .int 0 0] }).push { cls := .type "enumerate", data := .fields #[.none, .bool false, .ref s.heap.objs.size, rawInt 0, .none, .none] } }) :=
  .of_wp fun prog w A R s h => by
    refine Classical.byContradiction fun hn9 => ?_
    obtain ⟨hp, g, d, tk, os⟩ := s; obtain ⟨hl, h⟩ := h
    (refine hn9 ?_; clear hn9)
    have hsub := sub_enumerate
    have hL : IsTup (Shared.heap ⟨hp, g, d, tk, os⟩) l items := ⟨_, hl, rfl, n, rfl⟩
    wp_walk using wpAny_loadPart' hl
    refine wpAny_stack_any fun st => wpAny_pure ?_
    split
    · rename_i c _ _ _ _ _
      cases (c == Value.type "enumerate")
      · wp_walk using wpAny_loadPart' hl, iter_tuple hL
        exact ⟨_, rfl, h⟩
      · wp_walk using wpAny_loadPart' hl, iter_tuple hL
        exact ⟨_, rfl, h⟩
    · wp_walk using wpAny_loadPart' hl, iter_tuple hL
      exact ⟨_, rfl, h⟩
section
variable {prog : Program} {w : World} {A : Around} {E : Value → Shared → Prop} {s : Shared}
theorem call_enumT {l : Addr} {items : Array Value} {Q : Value → Shared → Prop} (hL : IsTup s.heap l items)
    (h : ∀ h', IsEnum h' (s.heap.objs.size + 1) s.heap.objs.size 0 .none → IsTupIter h' s.heap.objs.size l 0 → h'.objs.size = s.heap.objs.size + 2 →
      (∀ b o, s.heap.get? b = some o → h'.get? b = some o) → Q (.ref (s.heap.objs.size + 1)) { s with heap := h' }) :
    wpAny (model prog w) A (call (.type "enumerate") [.ref l]) Q E s := by
  refine Classical.byContradiction fun hn9 => ?_
  obtain ⟨⟨c, dct, dt, sl⟩, hl, hc, n, hd⟩ := hL
  (refine hn9 ?_; clear hn9)
  replace hc : c = .type "tuple" := hc
  replace hd : dt = .seq items n := hd
  subst hc hd
  refine callType_new PySem.F.called_enumerate (by decide) (PySem.F.typeCall_enumerate_1 _) (PySem.F.newCall_enumerate_1 _) (fun obj => PySem.F.args_object_init_2 obj _) PySem.F.entry_enumerate_new (enumNew_tup l items n dct sl) ⟨hl, ?_⟩
  have hz : (s.heap.push { cls := .type "tuple_iterator", data := .fields #[.ref l, .int 0 0] }).objs.size = s.heap.objs.size + 1 := Heap.size_push ..
  show _ ∧ _
  rw [hz]
  have he : IsEnum ((s.heap.push { cls := .type "tuple_iterator", data := .fields #[.ref l, .int 0 0] }).push
      { cls := .type "enumerate", data := .fields #[.none, .bool false, .ref s.heap.objs.size, rawInt 0, .none, .none] }) (s.heap.objs.size + 1) s.heap.objs.size 0 .none := by
    have := Heap.get?_push_size (s.heap.push { cls := .type "tuple_iterator", data := .fields #[.ref l, .int 0 0] })
      (o := { cls := .type "enumerate", data := .fields #[.none, .bool false, .ref s.heap.objs.size, rawInt 0, .none, .none] }) rfl
    rw [hz] at this; exact this
  exact ⟨⟨_, he, rfl⟩, h _ he ⟨_, Heap.get?_push_of_some _ (Heap.get?_push_size _ rfl), rfl, rfl⟩ (by rw [Heap.size_push, hz]) fun b o x => Heap.get?_push_of_some _ (Heap.get?_push_of_some _ x)⟩
end
section
variable {prog : Program} {w : World} {A : Around} {s : Shared} {env : Env} {h₀ : Heap}
theorem codeAny_enumT {R : Result → Shared → Prop} {xi xv : Str} {pi pv pt : Pos} {x1} {body : List Stmt} {e it l : Addr} {items : List Value} {m : Str → Option Value} {news : List (Addr × Obj)}
    (hh : A.handled = none) (hxi : env.kindOf xi = some .local) (hxv : env.kindOf xv = some .local)
    (hp : (env.scope.kind == .class || (env.scope.kind == .module && env.locals != env.globals)) = false)
    (hei : e ≠ it) (heL : env.locals ≠ e) (hiL : env.locals ≠ it) (he0 : h₀.get? e = none) (hi0 : h₀.get? it = none) (off : ∀ p ∈ news, p.1 ≠ e ∧ p.1 ≠ it) (hle : l ≠ e) (hli : l ≠ it)
    (he : IsEnum s.heap e it 0 .none) (hit : IsTupIter s.heap it l 0) (F : Fr h₀ env.locals s.heap m) (N : News h₀ env.locals s.heap news) (hl : ∀ h m, Fr h₀ env.locals h m → News h₀ env.locals h news → IsTup h l items.toArray)
    (J : Nat → (Str → Option Value) → Prop) (h0 : J 0 m)
    (step : ∀ i v tk m₁ h tk' oe oi, items[i]? = some v → J i m₁ → Fr h₀ env.locals h (fun y => if y = xv then some v else if y = xi then some (.int (i : Int) tk) else m₁ y) → News h₀ env.locals h ((e, oe) :: (it, oi) :: news) →
      wpAny (model prog w) A (execs body env) (fun f s₂ => match f with
        | .ret v => R (.ok (.ret v)) s₂
        | .brk => False
        | _ => ∃ h' tk' m₂, s₂ = { s with heap := h', toks := tk' } ∧ Fr h₀ env.locals h' m₂ ∧ News h₀ env.locals h' ((e, oe) :: (it, oi) :: news) ∧ J (i + 1) m₂) (notedBy (model prog w) A env fun e s' => R (.error e) s') { s with heap := h, toks := tk' })
    (done : ∀ m', ¬ J items.length m') :
    codeAny (model prog w) A (.forLoop (.Tuple [.Name xi pi, .Name xv pv] x1 pt) (.ref e) body [] env) R s := by
  refine codeAny_forLoop_any
    (fun k s' => ∃ h' tk m' i old, s' = { s with heap := h', toks := tk } ∧ IsEnum h' e it ((i : Nat) : Int) old ∧ IsTupIter h' it l i ∧ Fr h₀ env.locals h' m' ∧ News h₀ env.locals h' news ∧ J i m' ∧ i ≤ items.length ∧ k = items.length + 1 - i)
    ?_ (items.length + 1) ⟨s.heap, s.toks, m, 0, .none, rfl, he, hit, F, N, h0, Nat.zero_le _, rfl⟩
  intro k s' hq2
  refine Classical.byContradiction fun hn9 => ?_
  obtain ⟨H, tk, m', i, old, rfl, he', hit', F', N', hJ, hi, rfl⟩ := hq2
  (refine hn9 ?_; clear hn9)
  have hl' := hl _ _ F' N'
  cases hv : items[i]? with
  | none =>
    have hsz : i = items.length := by have := List.getElem?_eq_none_iff.mp hv; omega
    exact absurd (hsz ▸ hJ) (done m')
  | some v =>
    have hlt : i < items.length := (List.getElem?_eq_some_iff.mp hv).1
    have heH : e < H.objs.size := Heap.lt_size he'
    refine Classical.byContradiction fun hn9 => ?_
    obtain ⟨oi, hoi, _⟩ := id hit'
    (refine hn9 ?_; clear hn9)
    have hiH : it < H.objs.size := Heap.lt_size hoi
    refine enumNext_tup he' hit' hl' (by simpa using hv) hei fun h₁ heo hit₁ ht₁ hz₁ hk₁ => ?_
    have F₁ := fr_part F' hk₁ heL hiL he0 hi0
    have N₁ := news_part N' hk₁ off
    refine wpAny_letOwnedTupleGo_enum heo fun h₂ he₂ hs₂ => ?_
    replace hs₂ : Heap.SameBut e h₁ h₂ := hs₂
    have F₂ := F₁.change hs₂ (Ne.symm heL) he0
    have N₂ : News h₀ env.locals h₂ news := fun p hp => ⟨hs₂.extBut _ _ (off p hp).1 (N₁ p hp).1, (N₁ p hp).2⟩
    have ht₂ : h₂.IsTuple H.objs.size #[.int i tk, v] := ⟨_, (hs₂.2 _ (Nat.ne_of_gt heH)).trans ht₁, rfl, _, rfl⟩
    have hz₂ : h₂.objs.size = H.objs.size + 1 := hs₂.1.trans hz₁
    have hit₂ : IsTupIter h₂ it l (i + 1) := tupIter_at hit₁ fun o q => hs₂.extBut _ o (Ne.symm hei) q
    refine Classical.byContradiction fun hn9 => ?_
    obtain ⟨oit, hoit, hoit1, hoit2⟩ := hit₂
    (refine hn9 ?_; clear hn9)
    refine Classical.byContradiction fun hn9 => ?_
    obtain ⟨oe, hoe, hoe'⟩ : ∃ oe, h₂.get? e = some oe ∧ (∀ h'' : Heap, h''.get? e = some oe → IsEnum h'' e it ((i : Int) + 1) v) := ⟨_, he₂, fun _ q => q⟩
    (refine hn9 ?_; clear hn9)
    have N₂' : News h₀ env.locals h₂ ((e, oe) :: (it, oit) :: news) := fun p hp => by
      rcases List.mem_cons.mp hp with rfl | hp
      · exact ⟨hoe, Ne.symm heL, he0⟩
      · rcases List.mem_cons.mp hp with rfl | hp
        · exact ⟨hoit, Ne.symm hiL, hi0⟩
        · exact N₂ p hp
    refine wpAny_assign_Tuple hh ht₂ rfl rfl fun h₃ hx₃ => ?_
    replace hx₃ : Heap.ExtBut h₂.objs.size h₂ h₃ := hx₃
    have F₃ := F₂.extBut hx₃ (Nat.le_refl _)
    have N₃ := N₂'.extBut hx₃ (Nat.le_refl _)
    show wpAny _ A (do holding [v] (assign (.Name xi pi) env (.int i tk)); do holding [] (assign (.Name xv pv) env v); pure ()) _ _ _
    refine wpAny_bind (wpAny_holding (wpAny_assign_Name (wpAny_storeName_local hxi F₃.ns (fun h₄ hn₄ hs₄ => ?_) hp)))
    have F₄ := F₃.set hn₄ hs₄
    have N₄ := N₃.set hs₄
    refine wpAny_bind (wpAny_holding (wpAny_assign_Name (wpAny_storeName_local hxv F₄.ns (fun h₅ hn₅ hs₅ => wpAny_pure ?_) hp)))
    have F₅ := F₄.set hn₅ hs₅
    have N₅ := N₄.set hs₅
    refine wpAny_mono (step i v tk m' h₅ _ _ _ hv hJ F₅ N₅) (fun f s₃ h₆ => ?_) fun _ _ x => x
    have fin : (∃ h' tk' m₂, s₃ = { s with heap := h', toks := tk' } ∧ Fr h₀ env.locals h' m₂ ∧ News h₀ env.locals h' ((e, oe) :: (it, oit) :: news) ∧ J (i + 1) m₂) →
        ∃ k, k < items.length + 1 - i ∧ ∃ h' tk m' i old, s₃ = { s with heap := h', toks := tk } ∧ IsEnum h' e it ((i : Nat) : Int) old ∧ IsTupIter h' it l i ∧ Fr h₀ env.locals h' m' ∧ News h₀ env.locals h' news ∧ J i m' ∧ i ≤ items.length ∧ k = items.length + 1 - i := by
      intro hq0
      refine Classical.byContradiction fun hn9 => ?_
      obtain ⟨h7, tk7, m₂, rfl, F7, N7, hJ7⟩ := hq0
      (refine hn9 ?_; clear hn9)
      refine ⟨items.length + 1 - (i + 1), Nat.sub_lt_sub_left (Nat.lt_succ_of_le (Nat.le_of_succ_le hlt)) (Nat.lt_succ_self i), h7, tk7, m₂, i + 1, v, rfl, ?_, ⟨oit, (N7 _ (.tail _ (.head _))).1, hoit1, hoit2⟩, F7, fun p hp => N7 p (.tail _ (.tail _ hp)), hJ7, hlt, rfl⟩
      have : ((i + 1 : Nat) : Int) = (i : Int) + 1 := by push_cast; rfl
      rw [this]
      exact hoe' _ (N7 _ (.head _)).1
    cases f with
    | ret v => exact h₆
    | brk => exact h₆.elim
    | next => exact fin h₆
    | cont => exact fin h₆
theorem enumT_call {E : Value → Shared → Prop} {R : Result → Shared → Prop} {xi xv : Str} {pi pv pt : Pos} {x1} {body : List Stmt} {l : Addr} {items : List Value} {m : Str → Option Value} {news : List (Addr × Obj)}
    (hh : A.handled = none) (hxi : env.kindOf xi = some .local) (hxv : env.kindOf xv = some .local)
    (hp : (env.scope.kind == .class || (env.scope.kind == .module && env.locals != env.globals)) = false)
    (F : Fr h₀ env.locals s.heap m) (N : News h₀ env.locals s.heap news) (hl : ∀ h m, Fr h₀ env.locals h m → News h₀ env.locals h news → IsTup h l items.toArray)
    (J : Nat → (Str → Option Value) → Prop) (h0 : J 0 m)
    (step : ∀ i v tk m₁ h tk' e it oe oi, items[i]? = some v → J i m₁ → Fr h₀ env.locals h (fun y => if y = xv then some v else if y = xi then some (.int (i : Int) tk) else m₁ y) → News h₀ env.locals h ((e, oe) :: (it, oi) :: news) →
      wpAny (model prog w) A (execs body env) (fun f s₂ => match f with
        | .ret v => R (.ok (.ret v)) s₂
        | .brk => False
        | _ => ∃ h' tk' m₂, s₂ = { s with heap := h', toks := tk' } ∧ Fr h₀ env.locals h' m₂ ∧ News h₀ env.locals h' ((e, oe) :: (it, oi) :: news) ∧ J (i + 1) m₂) (notedBy (model prog w) A env fun e s' => R (.error e) s') { s with heap := h, toks := tk' })
    (done : ∀ m', ¬ J items.length m') :
    wpAny (model prog w) A (call (.type "enumerate") [.ref l]) (fun x s₁ => wpAny (model prog w) A (pyIter x) (fun it s₂ => codeAny (model prog w) A (.forLoop (.Tuple [.Name xi pi, .Name xv pv] x1 pt) it body [] env) R s₂) E s₁) E s := by
  have hls := hl _ _ F N
  refine Classical.byContradiction fun hn9 => ?_
  obtain ⟨ol, hol, _⟩ := id hls
  (refine hn9 ?_; clear hn9)
  have hlz : l < s.heap.objs.size := Heap.lt_size hol
  have hLz := F.ns.lt
  have fresh : ∀ a : Addr, s.heap.objs.size ≤ a → h₀.get? a = none := fun a ha => by
    cases q : h₀.get? a with
    | none => rfl
    | some o => exact absurd (Heap.lt_size (F.keep _ _ q)) (Nat.not_lt.mpr ha)
  refine call_enumT hls fun h' he hit hz hk => ?_
  refine wpAny_pyIter_enum he ?_
  exact codeAny_enumT hh hxi hxv hp (Nat.succ_ne_self _) (Nat.ne_of_lt (Nat.lt_succ_of_lt hLz)) (Nat.ne_of_lt hLz) (fresh _ (Nat.le_succ _)) (fresh _ (Nat.le_refl _))
    (fun p hp => ⟨Nat.ne_of_lt (Nat.lt_succ_of_lt (Heap.lt_size (N p hp).1)), Nat.ne_of_lt (Heap.lt_size (N p hp).1)⟩) (Nat.ne_of_lt (Nat.lt_succ_of_lt hlz)) (Nat.ne_of_lt hlz) he hit (F.keeps hk) (N.grown hk) hl J h0
    (fun i v tk m₁ h tk' oe oi => step i v tk m₁ h tk' _ _ oe oi) done
end
end Mine
end
local macro_rules | `(tactic| walk_at "cd") => `(tactic| ((case a => decide); (case b => decide); (case c => rfl); (case d => rfl)))
section
open PySem PySem.W PyProof.Rows PySem.Calls
set_option maxRecDepth 100000
namespace Mine
section
variable {w : World} {s : Shared} {mg mb : Str → Option Value} {dp un : Nat} {fr : Option (List Env)} {gd : Option (List Code)} {R : Result → Shared → Prop}
/-- a row of the table -/
noncomputable def RowAt (w : World) (wd : Str) (p q b h : Int) : Prop :=
  ∃ r c t1 t2 t3 t4 t5, nsIn (kk.heap_1 w.params) 97 wd = some (some (.ref r)) ∧ (kk.heap_1 w.params).lookup r = some ⟨.type "tuple", none, .seq [Value.str c t1, .int p t2, .int q t3, .int b t4, .int h t5].toArray 0, #[]⟩
noncomputable def SayInt (s : Shared) (R : Result → Shared → Prop) (k : Int) : Prop := ∀ h' tk t, s.heap.StaysIn h' → R (.ok (.ret (.int k t))) { s with heap := h', toks := tk }
theorem rows_keys (P : Params) : ∃ es n, (kk.heap_1 P).lookup 97 = some ⟨.type "dict", none, .dict es n, #[]⟩ ∧ KeysLit P es.toList := by
  refine ⟨_, _, by k_is, ?_⟩
  k_keys
theorem rowItem {M : Program} {A : Around} {E : Value → Shared → Prop} {value slice : Expr} {t : Tok} {wd : Str} {v : Value} {h₀ : Heap} {L : Addr} {m : Str → Option Value} {Q : Value → Shared → Prop} (F : Fr h₀ L s.heap m) (X₀ : (kk.heap_1 w.params).In h₀) (e : nsIn (kk.heap_1 w.params) 97 wd = some (some v))
    (h : Q v { s with toks := s.toks + 1 })
    (hs : subscripted slice false (.ref 97) (.str wd t) = operate [.ref 97, .str wd t] (getItem (.ref 97) (.str wd t)) := by with_unfolding_all rfl) :
    wpAny (model M w) A (subscriptTail value slice (.ref 97) (.str wd t)) Q E s := by
  refine Classical.byContradiction fun hn9 => ?_
  obtain ⟨es, n, h1, h2⟩ := rows_keys w.params
  (refine hn9 ?_; clear hn9)
  exact topItem_K F X₀ h1 h2 e h hs
local macro_rules | `(tactic| walk_at "subscriptTail Name Name ref str") => `(tactic| (refine rowItem (by k_asm) (by k_asm) (by assumption) ?_))
local macro_rules | `(tactic| walk_at "subscriptTail Name Subscript ref str") => `(tactic| (refine rowItem (by k_asm) (by k_asm) (by assumption) ?_))
local macro_rules | `(tactic| walk_at "subscriptTail Subscript Name Name Constant ref int") => `(tactic| (refine' topTup_K ?F ?X ?l ?a ?b ?c ?d ?_; (case F => k_asm); (case X => k_asm); (case l => assumption); walk_at "cd"))
local macro_rules | `(tactic| walk_at "subscriptTail Subscript Name Subscript Constant ref int") => `(tactic| (refine' topTup_K ?F ?X ?l ?a ?b ?c ?d ?_; (case F => k_asm); (case X => k_asm); (case l => assumption); walk_at "cd"))
variable {i : Addr} {wd c : Str} {op p q b h : Int} {t1 t2 : Tok} (X : (kk.heap_1 w.params).In s.heap) (T : TopRead vw (looseW vw [Str.ofString "ROWS"]) mg mb s.heap) (hD : dp + 3 < recursionLimit)
include X T hD
set_option maxHeartbeats 8000000
theorem popped_row (hi : IsTup s.heap i #[.str wd t1, .int op t2]) (hr : RowAt w wd p q b h) (hnc : (wd == Str.ofString "call") = false) (hnp : (wd == Str.ofString "plain") = false) (hR : SayInt s R p) : codeAny (model PySem.Challenge.rw_rg0136_01.row.toRowW.prog w) (Ar dp un fr gd) (.call (.ref 235) ⟨[.ref i], []⟩) R s := by
  refine Classical.byContradiction fun hn9 => ?_
  obtain ⟨r, c, t1, t2, t3, t4, t5, hr1, hr2⟩ := hr
  (refine hn9 ?_; clear hn9)
  refine' enter (K := kk.heap_1 _) (binds := [(Str.ofString "instruction", .ref i)]) ?k3 ?k5 ?k6 ?k7 ?k8 ?k9 ?kB ?_ ?c2 ?c3 ?c4 ?c5; (case k3 => assumption); (case k5 => exact TopRead.nolimit (by k_asm)); (case k6 => k_is); (case k7 => k_is); (case k8 => ktr_room); (case k9 => exact BindsTo.of_eq rfl); (case c5 => decide); (case kB => exact locs rfl); (case c2 => exact rfl); (case c3 => exact rfl); (case c4 => exact rfl); intro L' h₁ F N; (try dsimp only); k_fold
  k_steps
  all_goals (first | (refine hR _ _ _ ?_; exact Fr.keep (by k_asm)) | (exfalso; simp_all; done) | (exfalso; simp_all; rename_i hh; rcases hh with e | e <;> exact absurd e.symm (by assumption)))
theorem popped_call (hi : IsTup s.heap i #[.str (Str.ofString "call") t1, .int 2 t2]) (hR : SayInt s R 3) : codeAny (model PySem.Challenge.rw_rg0136_01.row.toRowW.prog w) (Ar dp un fr gd) (.call (.ref 235) ⟨[.ref i], []⟩) R s := by
  refine' enter (K := kk.heap_1 _) (binds := [(Str.ofString "instruction", .ref i)]) ?k3 ?k5 ?k6 ?k7 ?k8 ?k9 ?kB ?_ ?c2 ?c3 ?c4 ?c5; (case k3 => assumption); (case k5 => exact TopRead.nolimit (by k_asm)); (case k6 => k_is); (case k7 => k_is); (case k8 => ktr_room); (case k9 => exact BindsTo.of_eq rfl); (case c5 => decide); (case kB => exact locs rfl); (case c2 => exact rfl); (case c3 => exact rfl); (case c4 => exact rfl); intro L' h₁ F N; (try dsimp only); k_fold
  k_steps
  all_goals (first | (refine hR _ _ _ ?_; exact Fr.keep (by k_asm)) | (exfalso; simp_all; done) | (exfalso; simp_all; rename_i hh; rcases hh with e | e <;> exact absurd e.symm (by assumption)))
theorem popped_plain {k : Int} (hk : (k = 2 ∧ p = 2) ∨ (k = 5 ∧ p = 2) ∨ (k = 36 ∧ p = 3)) (hi : IsTup s.heap i #[.str (Str.ofString "plain") t1, .int k t2]) (hR : SayInt s R p) : codeAny (model PySem.Challenge.rw_rg0136_01.row.toRowW.prog w) (Ar dp un fr gd) (.call (.ref 235) ⟨[.ref i], []⟩) R s := by
  rcases hk with ⟨rfl, rfl⟩ | ⟨rfl, rfl⟩ | ⟨rfl, rfl⟩
  all_goals (
    refine' enter (K := kk.heap_1 _) (binds := [(Str.ofString "instruction", .ref i)]) ?k3 ?k5 ?k6 ?k7 ?k8 ?k9 ?kB ?_ ?c2 ?c3 ?c4 ?c5; (case k3 => assumption); (case k5 => exact TopRead.nolimit (by k_asm)); (case k6 => k_is); (case k7 => k_is); (case k8 => ktr_room); (case k9 => exact BindsTo.of_eq rfl); (case c5 => decide); (case kB => exact locs rfl); (case c2 => exact rfl); (case c3 => exact rfl); (case c4 => exact rfl); intro L' h₁ F N; (try dsimp only); k_fold
    k_steps
    all_goals (first | (refine hR _ _ _ ?_; exact Fr.keep (by k_asm)) | (exfalso; simp_all; done) | (exfalso; simp_all; rename_i hh; rcases hh with e | e <;> exact absurd e.symm (by assumption))))
theorem pushed_row (hi : IsTup s.heap i #[.str wd t1, .int op t2]) (hr : RowAt w wd p q b h) (hnc : (wd == Str.ofString "call") = false) (hnp : (wd == Str.ofString "plain") = false) (hR : SayInt s R q) : codeAny (model PySem.Challenge.rw_rg0136_01.row.toRowW.prog w) (Ar dp un fr gd) (.call (.ref 242) ⟨[.ref i], []⟩) R s := by
  refine Classical.byContradiction fun hn9 => ?_
  obtain ⟨r, c, t1, t2, t3, t4, t5, hr1, hr2⟩ := hr
  (refine hn9 ?_; clear hn9)
  refine' enter (K := kk.heap_1 _) (binds := [(Str.ofString "instruction", .ref i)]) ?k3 ?k5 ?k6 ?k7 ?k8 ?k9 ?kB ?_ ?c2 ?c3 ?c4 ?c5; (case k3 => assumption); (case k5 => exact TopRead.nolimit (by k_asm)); (case k6 => k_is); (case k7 => k_is); (case k8 => ktr_room); (case k9 => exact BindsTo.of_eq rfl); (case c5 => decide); (case kB => exact locs rfl); (case c2 => exact rfl); (case c3 => exact rfl); (case c4 => exact rfl); intro L' h₁ F N; (try dsimp only); k_fold
  k_steps
  all_goals (first | (refine hR _ _ _ ?_; exact Fr.keep (by k_asm)) | (exfalso; simp_all; done) | (exfalso; simp_all; rename_i hh; rcases hh with e | e <;> exact absurd e.symm (by assumption)))
theorem pushed_one (hi : IsTup s.heap i #[.str wd t1, .int op t2]) (hw : wd = Str.ofString "call" ∨ wd = Str.ofString "plain") (hR : SayInt s R 1) : codeAny (model PySem.Challenge.rw_rg0136_01.row.toRowW.prog w) (Ar dp un fr gd) (.call (.ref 242) ⟨[.ref i], []⟩) R s := by
  rcases hw with rfl | rfl
  all_goals (
    refine' enter (K := kk.heap_1 _) (binds := [(Str.ofString "instruction", .ref i)]) ?k3 ?k5 ?k6 ?k7 ?k8 ?k9 ?kB ?_ ?c2 ?c3 ?c4 ?c5; (case k3 => assumption); (case k5 => exact TopRead.nolimit (by k_asm)); (case k6 => k_is); (case k7 => k_is); (case k8 => ktr_room); (case k9 => exact BindsTo.of_eq rfl); (case c5 => decide); (case kB => exact locs rfl); (case c2 => exact rfl); (case c3 => exact rfl); (case c4 => exact rfl); intro L' h₁ F N; (try dsimp only); k_fold
    k_steps
    all_goals (first | (refine hR _ _ _ ?_; exact Fr.keep (by k_asm)) | (exfalso; simp_all; done) | (exfalso; simp_all; rename_i hh; rcases hh with e | e <;> exact absurd e.symm (by assumption))))
theorem bindings_row (hi : IsTup s.heap i #[.str wd t1, .int op t2]) (hr : RowAt w wd p q b h) (hnu : (wd == Str.ofString "unbind") = false) (hR : SayInt s R b) : codeAny (model PySem.Challenge.rw_rg0136_01.row.toRowW.prog w) (Ar dp un fr gd) (.call (.ref 256) ⟨[.ref i], []⟩) R s := by
  refine Classical.byContradiction fun hn9 => ?_
  obtain ⟨r, c, t1, t2, t3, t4, t5, hr1, hr2⟩ := hr
  (refine hn9 ?_; clear hn9)
  refine' enter (K := kk.heap_1 _) (binds := [(Str.ofString "instruction", .ref i)]) ?k3 ?k5 ?k6 ?k7 ?k8 ?k9 ?kB ?_ ?c2 ?c3 ?c4 ?c5; (case k3 => assumption); (case k5 => exact TopRead.nolimit (by k_asm)); (case k6 => k_is); (case k7 => k_is); (case k8 => ktr_room); (case k9 => exact BindsTo.of_eq rfl); (case c5 => decide); (case kB => exact locs rfl); (case c2 => exact rfl); (case c3 => exact rfl); (case c4 => exact rfl); intro L' h₁ F N; (try dsimp only); k_fold
  k_steps
  all_goals (first | (refine hR _ _ _ ?_; exact Fr.keep (by k_asm)) | (exfalso; simp_all; done) | (exfalso; simp_all; rename_i hh; rcases hh with e | e <;> exact absurd e.symm (by assumption)))
theorem bindings_unbind (hi : IsTup s.heap i #[.str (Str.ofString "unbind") t1, .int 1 t2]) (hR : SayInt s R (-1)) : codeAny (model PySem.Challenge.rw_rg0136_01.row.toRowW.prog w) (Ar dp un fr gd) (.call (.ref 256) ⟨[.ref i], []⟩) R s := by
  refine' enter (K := kk.heap_1 _) (binds := [(Str.ofString "instruction", .ref i)]) ?k3 ?k5 ?k6 ?k7 ?k8 ?k9 ?kB ?_ ?c2 ?c3 ?c4 ?c5; (case k3 => assumption); (case k5 => exact TopRead.nolimit (by k_asm)); (case k6 => k_is); (case k7 => k_is); (case k8 => ktr_room); (case k9 => exact BindsTo.of_eq rfl); (case c5 => decide); (case kB => exact locs rfl); (case c2 => exact rfl); (case c3 => exact rfl); (case c4 => exact rfl); intro L' h₁ F N; (try dsimp only); k_fold
  k_steps
  all_goals (first | (refine hR _ _ _ ?_; exact Fr.keep (by k_asm)) | (exfalso; simp_all; done) | (exfalso; simp_all; rename_i hh; rcases hh with e | e <;> exact absurd e.symm (by assumption)))
theorem handlers_row (hi : IsTup s.heap i #[.str wd t1, .int op t2]) (hr : RowAt w wd p q b h) (hR : SayInt s R h) : codeAny (model PySem.Challenge.rw_rg0136_01.row.toRowW.prog w) (Ar dp un fr gd) (.call (.ref 263) ⟨[.ref i], []⟩) R s := by
  refine Classical.byContradiction fun hn9 => ?_
  obtain ⟨r, c, t1, t2, t3, t4, t5, hr1, hr2⟩ := hr
  (refine hn9 ?_; clear hn9)
  refine' enter (K := kk.heap_1 _) (binds := [(Str.ofString "instruction", .ref i)]) ?k3 ?k5 ?k6 ?k7 ?k8 ?k9 ?kB ?_ ?c2 ?c3 ?c4 ?c5; (case k3 => assumption); (case k5 => exact TopRead.nolimit (by k_asm)); (case k6 => k_is); (case k7 => k_is); (case k8 => ktr_room); (case k9 => exact BindsTo.of_eq rfl); (case c5 => decide); (case kB => exact locs rfl); (case c2 => exact rfl); (case c3 => exact rfl); (case c4 => exact rfl); intro L' h₁ F N; (try dsimp only); k_fold
  k_steps
  all_goals (first | (refine hR _ _ _ ?_; exact Fr.keep (by k_asm)) | (exfalso; simp_all; done) | (exfalso; simp_all; rename_i hh; rcases hh with e | e <;> exact absurd e.symm (by assumption)))
omit X T hD in
theorem row_of (op : Op) : ∃ p q b h, RowAt w op.word p q b h ∧ h = op.hands ∧ ((op.word == Str.ofString "unbind") = false → b = op.binds) ∧
    ((op.word == Str.ofString "call") = false → (op.word == Str.ofString "plain") = false → p = op.popped ∧ q = op.pushed) := by
  cases op
  all_goals (dsimp only [Op.word, Op.hands, Op.binds, Op.popped, Op.pushed]; refine ⟨_, _, _, _, ⟨_, _, _, _, _, _, _, by k_is, by k_is⟩, rfl, ?_, ?_⟩)
  all_goals first | (intro hh; first | rfl | exact absurd hh (by decide); done) | (intro hh h2; first | exact ⟨rfl, rfl⟩ | exact absurd hh (by decide) | exact absurd h2 (by decide))
theorem popped_ok (o : Op) (hi : IsTup s.heap i #[.str o.word t1, .int o.arg t2]) (hR : SayInt s R o.popped) : codeAny (model PySem.Challenge.rw_rg0136_01.row.toRowW.prog w) (Ar dp un fr gd) (.call (.ref 235) ⟨[.ref i], []⟩) R s := by
  refine Classical.byContradiction fun hn9 => ?_
  obtain ⟨p, q, b, h, hr, _, _, h2⟩ := row_of (w := w) o
  (refine hn9 ?_; clear hn9)
  cases o
  case call => exact popped_call X T hD hi hR
  case cons => exact popped_plain X T hD (.inl ⟨rfl, rfl⟩) hi hR
  case eq => exact popped_plain X T hD (.inr (.inl ⟨rfl, rfl⟩)) hi hR
  case list3 => exact popped_plain X T hD (.inr (.inr ⟨rfl, rfl⟩)) hi hR
  all_goals (obtain ⟨e1, e2⟩ := h2 (by dsimp only [Op.word]; decide) (by dsimp only [Op.word]; decide); subst e1; exact popped_row X T hD hi hr (by dsimp only [Op.word]; decide) (by dsimp only [Op.word]; decide) hR)
theorem pushed_ok (o : Op) (hi : IsTup s.heap i #[.str o.word t1, .int o.arg t2]) (hR : SayInt s R o.pushed) : codeAny (model PySem.Challenge.rw_rg0136_01.row.toRowW.prog w) (Ar dp un fr gd) (.call (.ref 242) ⟨[.ref i], []⟩) R s := by
  refine Classical.byContradiction fun hn9 => ?_
  obtain ⟨p, q, b, h, hr, _, _, h2⟩ := row_of (w := w) o
  (refine hn9 ?_; clear hn9)
  cases o
  case call => exact pushed_one X T hD hi (.inl rfl) hR
  case cons => exact pushed_one X T hD hi (.inr rfl) hR
  case eq => exact pushed_one X T hD hi (.inr rfl) hR
  case list3 => exact pushed_one X T hD hi (.inr rfl) hR
  all_goals (obtain ⟨e1, e2⟩ := h2 (by dsimp only [Op.word]; decide) (by dsimp only [Op.word]; decide); subst e2; exact pushed_row X T hD hi hr (by dsimp only [Op.word]; decide) (by dsimp only [Op.word]; decide) hR)
theorem bindings_ok (o : Op) (hi : IsTup s.heap i #[.str o.word t1, .int o.arg t2]) (hR : SayInt s R o.binds) : codeAny (model PySem.Challenge.rw_rg0136_01.row.toRowW.prog w) (Ar dp un fr gd) (.call (.ref 256) ⟨[.ref i], []⟩) R s := by
  refine Classical.byContradiction fun hn9 => ?_
  obtain ⟨p, q, b, h, hr, _, h2, _⟩ := row_of (w := w) o
  (refine hn9 ?_; clear hn9)
  cases o
  case unbind => exact bindings_unbind X T hD hi hR
  all_goals (obtain e1 := h2 (by dsimp only [Op.word]; decide); subst e1; exact bindings_row X T hD hi hr (by dsimp only [Op.word]; decide) hR)
theorem handlers_ok (o : Op) (hi : IsTup s.heap i #[.str o.word t1, .int o.arg t2]) (hR : SayInt s R o.hands) : codeAny (model PySem.Challenge.rw_rg0136_01.row.toRowW.prog w) (Ar dp un fr gd) (.call (.ref 263) ⟨[.ref i], []⟩) R s := by
  refine Classical.byContradiction fun hn9 => ?_
  obtain ⟨p, q, b, h, hr, e, _, _⟩ := row_of (w := w) o
  (refine hn9 ?_; clear hn9)
  subst e
  exact handlers_row X T hD hi hr hR
end
end Mine
end
local macro_rules | `(tactic| walk_at "XK") => `(tactic| ((case X => k_in); (case T => exact PySem.W.TopRead.keeps (by k_asm) (PyProof.Rows.Fr.keep (by k_asm)))))
local macro_rules | `(tactic| walk_at "rm") => `(tactic| (((try simp only [Mine.Ar, PyProof.Rows.depth_deeper, PyProof.Rows.units_deeper, PySem.recursionLimit, PySem.cLine] at *); omega)))
local macro_rules | `(tactic| walk_at "D") => `(tactic| ((case D => walk_at "rm")))
local macro_rules | `(tactic| walk_at "ret") => `(tactic| (intro h' tk' t' hk'; have kF' := PyProof.Rows.Fr.keeps (by k_asm) hk'; have kN' := PyProof.Rows.News.grown (by k_asm) hk'; clear hk'; (try dsimp only)))
local macro_rules | `(tactic| walk_at "i") => `(tactic| ((case i => first | assumption | exact PyProof.Rows.Fr.tup (by k_asm) (by assumption))))
local macro_rules | `(tactic| tbr_iter (0, $a)) => `(tactic| (k_here; (fail_if_success (fail_if_success (with_reducible show PySem.wpAny _ _ (PySem.call (PySem.Value.ref $a) _ _) _ _ _)))))
local macro_rules | `(tactic| tbr_iter (4, $a, $l)) => `(tactic| (tbr_iter (0, $a); k_dflt (refine' PySem.wpAny_call ($l ?X ?T ?D _ ?i ?_); walk_at "XK"; walk_at "D"; walk_at "i"; walk_at "ret")))
section
open PySem PySem.W PyProof.Rows PySem.Calls
set_option maxRecDepth 100000
set_option maxHeartbeats 8000000
namespace Mine
section
variable {w : World} {s : Shared} {mg mb : Str → Option Value} {dp un : Nat} {fr : Option (List Env)} {gd : Option (List Code)} {R : Result → Shared → Prop}
variable {i : Addr} {wd c : Str} {op p q b h : Int} {t1 t2 : Tok} (X : (kk.heap_1 w.params).In s.heap) (T : TopRead vw (looseW vw [Str.ofString "ROWS"]) mg mb s.heap)
include X T
local macro_rules | `(tactic| walk_at "call ref") => `(tactic| tbr_iter (4, 235, popped_ok))
theorem needed_row (o : Op) (hD : dp + 4 < recursionLimit) (hs : (o.word == Str.ofString "stackref") = false) (hi : IsTup s.heap i #[.str o.word t1, .int o.arg t2]) (hR : SayInt s R o.popped) : codeAny (model PySem.Challenge.rw_rg0136_01.row.toRowW.prog w) (Ar dp un fr gd) (.call (.ref 249) ⟨[.ref i], []⟩) R s := by
  refine' enter (K := kk.heap_1 _) (binds := [(Str.ofString "instruction", .ref i)]) ?k3 ?k5 ?k6 ?k7 ?k8 ?k9 ?kB ?_ ?c2 ?c3 ?c4 ?c5; (case k3 => assumption); (case k5 => exact TopRead.nolimit (by k_asm)); (case k6 => k_is); (case k7 => k_is); (case k8 => ktr_room); (case k9 => exact BindsTo.of_eq rfl); (case c5 => decide); (case kB => exact locs rfl); (case c2 => exact rfl); (case c3 => exact rfl); (case c4 => exact rfl); intro L' h₁ F N; (try dsimp only); k_fold
  k_steps
  all_goals (first | (refine hR _ _ _ ?_; exact Fr.keep (by k_asm)) | (exfalso; simp_all; done) | (exfalso; simp_all; rename_i hh; rcases hh with e | e <;> exact absurd e.symm (by assumption)))
theorem needed_stackref (hD : dp + 4 < recursionLimit) (hi : IsTup s.heap i #[.str (Str.ofString "stackref") t1, .int 1 t2]) (hR : SayInt s R 2) : codeAny (model PySem.Challenge.rw_rg0136_01.row.toRowW.prog w) (Ar dp un fr gd) (.call (.ref 249) ⟨[.ref i], []⟩) R s := by
  refine' enter (K := kk.heap_1 _) (binds := [(Str.ofString "instruction", .ref i)]) ?k3 ?k5 ?k6 ?k7 ?k8 ?k9 ?kB ?_ ?c2 ?c3 ?c4 ?c5; (case k3 => assumption); (case k5 => exact TopRead.nolimit (by k_asm)); (case k6 => k_is); (case k7 => k_is); (case k8 => ktr_room); (case k9 => exact BindsTo.of_eq rfl); (case c5 => decide); (case kB => exact locs rfl); (case c2 => exact rfl); (case c3 => exact rfl); (case c4 => exact rfl); intro L' h₁ F N; (try dsimp only); k_fold
  k_steps
  all_goals (first | (refine hR _ _ _ ?_; exact Fr.keep (by k_asm)) | (exfalso; simp_all; done) | (exfalso; simp_all; rename_i hh; rcases hh with e | e <;> exact absurd e.symm (by assumption)))
theorem needed_ok (hD : dp + 4 < recursionLimit) (o : Op) (hi : IsTup s.heap i #[.str o.word t1, .int o.arg t2]) (hR : SayInt s R o.needed) : codeAny (model PySem.Challenge.rw_rg0136_01.row.toRowW.prog w) (Ar dp un fr gd) (.call (.ref 249) ⟨[.ref i], []⟩) R s := by
  cases o
  case stackref => exact needed_stackref X T hD hi hR
  all_goals exact needed_row X T _ hD (by dsimp only [Op.word]; decide) hi hR
end
section
variable {w : World} {s : Shared} {mg mb : Str → Option Value} {dp un : Nat} {fr : Option (List Env)} {gd : Option (List Code)} {R : Result → Shared → Prop}
theorem standing_new {v b : Int} {t1 t2 : Tok} {l : Value} (X : (kk.heap_1 w.params).In s.heap) (T : TopRead vw (looseW vw [Str.ofString "ROWS"]) mg mb s.heap) (hD : dp + 2 ≤ 400)
    (hR : ∀ h' tk x d h1 h2 h3 k1 k2 k3, s.heap.StaysIn h' → h'.get? x = some (instObj 287 d) → h'.get? d = some (dictOf [⟨h1, .str (Str.ofString "values") k1, .int v t1⟩, ⟨h2, .str (Str.ofString "bindings") k2, .int b t2⟩, ⟨h3, .str (Str.ofString "handlers") k3, l⟩] 3) →
       d = s.heap.objs.size → x = s.heap.objs.size + 1 → R (.ok (.ret (.ref x))) { s with heap := h', toks := tk }) :
    codeAny (model PySem.Challenge.rw_rg0136_01.row.toRowW.prog w) (Ar dp un fr gd) (.call (.ref 287) ⟨[.int v t1, .int b t2, l], []⟩) R s := by
  refine Classical.byContradiction fun hn9 => ?_
  obtain ⟨hh, gg, dd, tt, oo⟩ := s
  (refine hn9 ?_; clear hn9)
  have k1 : hh.StaysIn ((hh.push (dictOf [] 0)).push (instObj 287 hh.objs.size)) := fun b o e => Heap.get?_push_of_some _ (Heap.get?_push_of_some _ e)
  have hx : ((hh.push (dictOf [] 0)).push (instObj 287 hh.objs.size)).get? (hh.objs.size + 1) = some (instObj 287 hh.objs.size) := by heap_get
  have hdd : ((hh.push (dictOf [] 0)).push (instObj 287 hh.objs.size)).get? hh.objs.size = some (dictOf [] 0) := by heap_get
  have n1 : hh.get? hh.objs.size = none := Heap.get?_none_of_le (Nat.le_refl _)
  have n2 : hh.get? (hh.objs.size + 1) = none := Heap.get?_none_of_le (Nat.le_succ _)
  have hz : hh.objs.size ≤ ((hh.push (dictOf [] 0)).push (instObj 287 hh.objs.size)).objs.size := by rw [Heap.size_push, Heap.size_push]; omega
  refine make_core (init := .ref 277) (makes_of X (by k_is)) (looks_findIn X (by k_is)) (fun self => bind_fn X self (by k_is)) (.inl rfl) ?_
  refine' enter2 (K := kk.heap_1 _) (binds := [(Str.ofString "self", .ref (hh.objs.size + 1)), (Str.ofString "values", .int v t1), (Str.ofString "bindings", .int b t2), (Str.ofString "handlers", l)]) hh [(hh.objs.size + 1, instObj 287 hh.objs.size), (hh.objs.size, dictOf [] 0)] ?k3 ?k5 ?kk ?kz ?kp ?k6 ?k7 ?k8 ?k9 ?kB ?_ ?c2 ?c3 ?c4 ?c5; (case k6 => k_is); (case k7 => k_is); (case k8 => ktr_room); (case k9 => exact BindsTo.of_eq rfl); (case c5 => decide); (case kB => exact locs rfl); (case c2 => exact rfl); (case c3 => exact rfl); (case c4 => exact rfl)
  case k3 => exact X
  case k5 => exact TopRead.nolimit (T.keeps k1)
  case kk => exact k1
  case kz => exact hz
  case kp => exact List.forall_mem_cons.mpr ⟨⟨hx, n2⟩, List.forall_mem_cons.mpr ⟨⟨hdd, n1⟩, List.forall_mem_nil _⟩⟩
  intro L' h₁ F N
  (try dsimp only)
  generalize hx9 : hh.objs.size + 1 = x at *
  have hne : hh.objs.size < x := by omega
  generalize hd9 : hh.objs.size = d at *
  k_steps
  exact ⟨rfl, hR _ _ _ _ _ _ _ _ _ _ (Fr.keep (by k_asm)) (News.get (by k_asm) (by k_mem)) (News.get (by k_asm) (by k_mem)) rfl rfl⟩
end
theorem news_two {h₀ h h' : Heap} {L : Addr} {m : Str → Option Value} {news : List (Addr × Obj)} {x d : Addr} {ox od : Obj} (F : Fr h₀ L h m) (N : News h₀ L h news) (hk : h.StaysIn h') (hx : h'.get? x = some ox) (hdd : h'.get? d = some od) (ed : d = h.objs.size) (ex : x = h.objs.size + 1) :
    News h₀ L h' ((x, ox) :: (d, od) :: news) ∧ (∀ p ∈ news, p.1 < d) ∧ @LT.lt Nat _ d x := by
  refine Classical.byContradiction fun hn9 => ?_
  obtain ⟨oL, _, _, hL, _⟩ := F.ns
  (refine hn9 ?_; clear hn9)
  have hLs := Heap.lt_size hL
  have h0 : ∀ a : Addr, h.objs.size ≤ a → h₀.get? a = none := fun a ha => by
    cases q : h₀.get? a with
    | none => rfl
    | some o => exact absurd (Heap.lt_size (F.keep _ _ q)) (Nat.not_lt.mpr ha)
  subst ed ex
  refine ⟨fun p hp => ?_, fun p hp => Heap.lt_size (N p hp).1, Nat.lt_succ_self _⟩
  rcases List.mem_cons.mp hp with rfl | hp
  · exact ⟨hx, Nat.ne_of_gt (Nat.lt_succ_of_lt hLs), h0 _ (Nat.le_succ _)⟩
  · rcases List.mem_cons.mp hp with rfl | hp
    · exact ⟨hdd, Nat.ne_of_gt hLs, h0 _ (Nat.le_refl _)⟩
    · exact ⟨hk _ _ (N p hp).1, (N p hp).2⟩
end Mine
end
local macro_rules | `(tactic| walk_at "FN") => `(tactic| ((case F => k_asm); (case N => k_asm)))
local macro_rules | `(tactic| walk_at "aN") => `(tactic| (intro h' F' N'; (try dsimp only [List.nil_append, List.cons_append] at N')))
local macro_rules | `(tactic| walk_at "ml") => `(tactic| (((try simp only [PySem.sizeLine_eq, List.length_append, List.length_cons, List.length_nil] at *); omega)))
local macro_rules | `(tactic| walk_at "zm") => `(tactic| ((case z => walk_at "ml")))
local macro_rules | `(tactic| tbr_iter (2, $a)) => `(tactic| (k_here; (fail_if_success (fail_if_success (with_reducible show PySem.wpAny _ _ (PySem.call (PySem.Value.builtin $a) [PySem.Value.ref _, _]) _ _ _)))))
local macro_rules | `(tactic| tbr_iter (1, $a)) => `(tactic| (k_here; (fail_if_success (fail_if_success (with_reducible show PySem.wpAny _ _ (PySem.call (PySem.Value.builtin $a) [PySem.Value.ref _]) _ _ _)))))
local macro_rules | `(tactic| walk_at "ng") => `(tactic| (exact PyProof.Rows.News.get (by k_asm) (by k_mem)))
local macro_rules | `(tactic| walk_at "rk") => `(tactic| (exact PyProof.Rows.ReadsAll.keeps (PyProof.Rows.Fr.keep (by k_asm)) (by assumption)))
local macro_rules | `(tactic| walk_at "ra") => `(tactic| (first | walk_at "rk" | exact Mine.readsAll_snoc (by walk_at "rk") (PyProof.Rows.reads_tuple_at (by walk_at "ng") rfl rfl (PyProof.Rows.readsAll_cons_val (.int _ _) (PyProof.Rows.readsAll_cons_val (.int _ _) (PyProof.Rows.readsAll_cons_val (.int _ _) .nil))))))
local macro_rules | `(tactic| walk_at "eg") => `(tactic| ((case e => walk_at "ng"); (case l => walk_at "ng")))
local macro_rules | `(tactic| walk_at "u") => `(tactic| ((case u => walk_at "rm")))
local macro_rules | `(tactic| tbr_iter (3, $a)) => `(tactic| (k_here; (fail_if_success (fail_if_success (with_reducible show PySem.wpAny _ _ (PySem.compareOp $a (PySem.Value.ref _) (PySem.Value.ref _)) _ _ _)))))
local macro_rules | `(tactic| walk_at "nl") => `(tactic| (exact PyProof.Rows.News.isList (by k_asm) (by k_mem)))
local macro_rules | `(tactic| walk_at "st") => `(tactic| ((intro p9 hp9; repeat (first | assumption | refine List.mem_cons_of_mem _ ?_))))
section
open PySem PySem.W PyProof.Rows PySem.Calls
namespace Mine
local macro_rules | `(tactic| walk_at "call builtin:list.append") => `(tactic| (tbr_iter (2, "list.append"); k_dflt (refine' append_L ?F ?N ?U ?z ?_; walk_at "FN"; (case U => k_upd); walk_at "zm"); walk_at "aN"))
local macro_rules | `(tactic| walk_at "call builtin:list.pop") => `(tactic| (tbr_iter (1, "list.pop"); k_dflt (refine' pop_L ?F ?N ?U ?z ?_; walk_at "FN"; (case U => k_upd); walk_at "zm"); walk_at "aN"))
local macro_rules | `(tactic| walk_at "compareOp NotEq ref ref") => `(tactic| (tbr_iter (3, CmpOp.NotEq); k_dflt (first
  | refine' neNil_nil ?l ?e ?u ?_; walk_at "eg"; walk_at "u"
  | refine' neNil_snoc ?l ?e ?r ?sh ?u ?_; walk_at "eg"; (case r => walk_at "ra"); (case sh => assumption); walk_at "u")))
local macro_rules | `(tactic| walk_at "compareOp Eq ref ref") => `(tactic| (tbr_iter (3, CmpOp.Eq); k_dflt (first
  | refine' eqNil_nil ?l ?e ?u ?_; walk_at "eg"; walk_at "u"
  | refine' eqNil_snoc ?l ?e ?r ?sh ?u ?_; walk_at "eg"; (case r => walk_at "ra"); (case sh => assumption); walk_at "u")))
local macro_rules | `(tactic| walk_at "subscriptTail Name UnaryOp ref int") => `(tactic| (k_here; k_dflt (refine' last_L ?l ?_; (case l => walk_at "nl"))))
local macro_rules | `(tactic| k_inst) => `(tactic| exact instAt_get (Fr.keep (by k_asm)) (by assumption) (by assumption))
local macro_rules | `(tactic| k_inst) => `(tactic| exact instAt_hs (by k_asm) (by k_asm) (by assumption) (by assumption) (by assumption) (by walk_at "st"))
section
set_option maxRecDepth 100000
set_option maxHeartbeats 8000000
local macro_rules | `(tactic| walk_at "call ref") => `(tactic| tbr_iter (4, 235, popped_ok))
local macro_rules | `(tactic| walk_at "call ref") => `(tactic| tbr_iter (4, 242, pushed_ok))
local macro_rules | `(tactic| walk_at "call ref") => `(tactic| tbr_iter (4, 249, needed_ok))
local macro_rules | `(tactic| walk_at "call ref") => `(tactic| tbr_iter (4, 256, bindings_ok))
local macro_rules | `(tactic| walk_at "call ref") => `(tactic| tbr_iter (4, 263, handlers_ok))
local macro_rules | `(tactic| walk_at "call ref") => `(tactic| (tbr_iter (0, 287); k_dflt (refine' wpAny_call (standing_new ?X ?T ?D ?_); walk_at "XK"; walk_at "D"; intro h' tk' x' d' h1' h2' h3' k1' k2' k3' hk' hx' hd' eD' eX'; have kF' := Fr.keeps (by k_asm) hk'; have kN' := (news_two (by k_asm) (by k_asm) hk' hx' hd' eD' eX').1; have kl1 := (news_two (by k_asm) (by k_asm) hk' hx' hd' eD' eX').2.1; have kl2 := (news_two (by k_asm) (by k_asm) hk' hx' hd' eD' eX').2.2; clear hk' hx' hd' eD' eX'; (try k_lt kl1); (try dsimp only))))
section
variable {w : World} {s : Shared} {mg mb : Str → Option Value} {dp un : Nat} {fr : Option (List Env)} {gd : Option (List Code)} {R : Result → Shared → Prop}
theorem after_plain {i a : Addr} {t1 t2 : Tok} {o : Op} {st : St} (X : (kk.heap_1 w.params).In s.heap) (T : TopRead vw (looseW vw [Str.ofString "ROWS"]) mg mb s.heap) (hD : dp + 5 ≤ 400) (hU : un + 50 ≤ 5000)
    (hi : IsTup s.heap i #[.str o.word t1, .int o.arg t2]) {σ : Store} (hσ : Sub σ (hSt s.heap)) (hs : StandAt σ a st) (ho : o.Ok st) (hk : o.hands = 0) (hh : o.laterHs st = st.hs)
    (hR : ∀ h' tk b, s.heap.StaysIn h' → StandAt (Ext σ s.heap h') b (o.step st) → R (.ok (.ret (.ref b))) { s with heap := h', toks := tk }) : codeAny (model PySem.Challenge.rw_rg0136_01.row.toRowW.prog w) (Ar dp un fr gd) (.call (.ref 312) ⟨[.ref i, .ref a], []⟩) R s := by
  have hneed := ho.need
  have hbnd := ho.bnd
  refine Classical.byContradiction fun hn9 => ?_
  obtain ⟨d, l, h1, h2, h3, k1, k2, k3, tv, tb, hs1, hs2, hvs, ⟨ln, hl⟩, halls⟩ := hs
  (refine hn9 ?_; clear hn9)
  have hs1 := hσ _ _ hs1
  have hs2 := hσ _ _ hs2
  have hl := hσ _ _ hl
  have hall := halls.hands hσ
  have hL : s.heap.IsList l hvs.toArray := ⟨_, hl, rfl, _, rfl⟩
  have hz : hvs.length ≤ 1000 := by rw [hall.length]; exact ho.size
  have hrd := hands_reads hall
  have hsh := hands_shaped st.hs
  rcases hall.last with ⟨rfl, e2⟩ | ⟨p, y, q, z, rfl, e2, hp, hy⟩
  · refine' enter (K := kk.heap_1 _) (binds := [(Str.ofString "instruction", .ref i), (Str.ofString "standing", .ref a)]) ?k3 ?k5 ?k6 ?k7 ?k8 ?k9 ?kB ?_ ?c2 ?c3 ?c4 ?c5; (case k3 => assumption); (case k5 => exact TopRead.nolimit (by k_asm)); (case k6 => k_is); (case k7 => k_is); (case k8 => ktr_room); (case k9 => exact BindsTo.of_eq rfl); (case c5 => decide); (case kB => exact locs rfl); (case c2 => exact rfl); (case c3 => exact rfl); (case c4 => exact rfl); intro L' h₁ F N; (try dsimp only); k_fold
    k_steps
    exact hR _ _ _ (Fr.keep (by k_asm)) (stand_intro (News.ext (by k_asm) (by k_mem)) (News.ext (by k_asm) (by k_mem)) (News.ext (by k_asm) (by k_mem)) (halls.hands sub_ext) (by rw [Op.step, hh]))
  · have htop := ho.top z (by rw [hh, e2]; simp)
    refine Classical.byContradiction fun hn9 => ?_
    obtain ⟨ya, u1, u2, u3, rfl, hyt⟩ := hy
    (refine hn9 ?_; clear hn9)
    have hyT := hyt.isTup
    refine' enter (K := kk.heap_1 _) (binds := [(Str.ofString "instruction", .ref i), (Str.ofString "standing", .ref a)]) ?k3 ?k5 ?k6 ?k7 ?k8 ?k9 ?kB ?_ ?c2 ?c3 ?c4 ?c5; (case k3 => assumption); (case k5 => exact TopRead.nolimit (by k_asm)); (case k6 => k_is); (case k7 => k_is); (case k8 => ktr_room); (case k9 => exact BindsTo.of_eq rfl); (case c5 => decide); (case kB => exact locs rfl); (case c2 => exact rfl); (case c3 => exact rfl); (case c4 => exact rfl); intro L' h₁ F N; (try dsimp only); k_fold
    k_steps
    exact hR _ _ _ (Fr.keep (by k_asm)) (stand_intro (News.ext (by k_asm) (by k_mem)) (News.ext (by k_asm) (by k_mem)) (News.ext (by k_asm) (by k_mem)) (halls.hands sub_ext) (by rw [Op.step, hh]))
end
end
section
local macro_rules | `(tactic| walk_at "nowhere 0") => `(tactic| skip)
set_option maxRecDepth 100000
set_option maxHeartbeats 8000000
local macro_rules | `(tactic| walk_at "call ref") => `(tactic| tbr_iter (4, 235, popped_ok))
local macro_rules | `(tactic| walk_at "call ref") => `(tactic| tbr_iter (4, 242, pushed_ok))
local macro_rules | `(tactic| walk_at "call ref") => `(tactic| tbr_iter (4, 249, needed_ok))
local macro_rules | `(tactic| walk_at "call ref") => `(tactic| tbr_iter (4, 256, bindings_ok))
local macro_rules | `(tactic| walk_at "call ref") => `(tactic| tbr_iter (4, 263, handlers_ok))
local macro_rules | `(tactic| walk_at "call ref") => `(tactic| (tbr_iter (0, 287); k_dflt (refine' wpAny_call (standing_new ?X ?T ?D ?_); walk_at "XK"; walk_at "D"; intro h' tk' x' d' h1' h2' h3' k1' k2' k3' hk' hx' hd' eD' eX'; have kF' := Fr.keeps (by k_asm) hk'; have kN' := (news_two (by k_asm) (by k_asm) hk' hx' hd' eD' eX').1; have kl1 := (news_two (by k_asm) (by k_asm) hk' hx' hd' eD' eX').2.1; have kl2 := (news_two (by k_asm) (by k_asm) hk' hx' hd' eD' eX').2.2; clear hk' hx' hd' eD' eX'; (try k_lt kl1); (try dsimp only))))
section
variable {w : World} {s : Shared} {mg mb : Str → Option Value} {dp un : Nat} {fr : Option (List Env)} {gd : Option (List Code)} {R : Result → Shared → Prop}
theorem after_catch {i a : Addr} {t1 t2 : Tok} {p0 : Int} {st : St} (X : (kk.heap_1 w.params).In s.heap) (T : TopRead vw (looseW vw [Str.ofString "ROWS"]) mg mb s.heap) (hD : dp + 5 ≤ 400) (hU : un + 50 ≤ 5000)
    (hi : IsTup s.heap i #[.str (Op.pcatch p0).word t1, .int (Op.pcatch p0).arg t2]) {σ : Store} (hσ : Sub σ (hSt s.heap)) (hs : StandAt σ a st) (ho : (Op.pcatch p0).Ok st)
    (hR : ∀ h' tk b, s.heap.StaysIn h' → StandAt (Ext σ s.heap h') b ((Op.pcatch p0).step st) → R (.ok (.ret (.ref b))) { s with heap := h', toks := tk }) : codeAny (model PySem.Challenge.rw_rg0136_01.row.toRowW.prog w) (Ar dp un fr gd) (.call (.ref 312) ⟨[.ref i, .ref a], []⟩) R s := by
  have hneed := ho.need
  have hbnd := ho.bnd
  have hk : (Op.pcatch p0).hands = 1 := rfl
  have htop : st.b ≤ st.b + (Op.pcatch p0).binds := by show st.b ≤ st.b + 0; omega
  refine Classical.byContradiction fun hn9 => ?_
  obtain ⟨d, l, h1, h2, h3, k1, k2, k3, tv, tb, hs1, hs2, hvs, ⟨ln, hl⟩, halls⟩ := hs
  (refine hn9 ?_; clear hn9)
  have hs1 := hσ _ _ hs1
  have hs2 := hσ _ _ hs2
  have hl := hσ _ _ hl
  have hall := halls.hands hσ
  have hL : s.heap.IsList l hvs.toArray := ⟨_, hl, rfl, _, rfl⟩
  have hz : hvs.length ≤ 1000 := by rw [hall.length]; exact ho.size
  have hrd := hands_reads hall
  have hsh : SeqAt.shaped (.list (st.hs.map handD ++ [handD (st.v - (Op.pcatch p0).popped + (Op.pcatch p0).pushed, st.b, (Op.pcatch p0).arg)])) = true := by
    have := hands_shaped (st.hs ++ [(st.v - (Op.pcatch p0).popped + (Op.pcatch p0).pushed, st.b, (Op.pcatch p0).arg)])
    rwa [List.map_append] at this
  generalize hoo : Op.pcatch p0 = o at *
  refine' enter (K := kk.heap_1 _) (binds := [(Str.ofString "instruction", .ref i), (Str.ofString "standing", .ref a)]) ?k3 ?k5 ?k6 ?k7 ?k8 ?k9 ?kB ?_ ?c2 ?c3 ?c4 ?c5; (case k3 => assumption); (case k5 => exact TopRead.nolimit (by k_asm)); (case k6 => k_is); (case k7 => k_is); (case k8 => ktr_room); (case k9 => exact BindsTo.of_eq rfl); (case c5 => decide); (case kB => exact locs rfl); (case c2 => exact rfl); (case c3 => exact rfl); (case c4 => exact rfl); intro L' h₁ F N; (try dsimp only); k_fold
  k_steps
  exact hR _ _ _ (Fr.keep (by k_asm)) (stand_intro (News.ext (by k_asm) (by k_mem)) (News.ext (by k_asm) (by k_mem)) (News.ext (by k_asm) (by k_mem)) ((halls.hands sub_ext).snoc (b := (st.v - o.popped + o.pushed, st.b, o.arg)) ⟨_, _, _, _, rfl, _, News.ext (by k_asm) (by k_mem)⟩) (by rw [Op.step, ← hoo]; rfl))
end
end
section
set_option maxRecDepth 100000
set_option maxHeartbeats 8000000
local macro_rules | `(tactic| walk_at "call ref") => `(tactic| tbr_iter (4, 235, popped_ok))
local macro_rules | `(tactic| walk_at "call ref") => `(tactic| tbr_iter (4, 242, pushed_ok))
local macro_rules | `(tactic| walk_at "call ref") => `(tactic| tbr_iter (4, 249, needed_ok))
local macro_rules | `(tactic| walk_at "call ref") => `(tactic| tbr_iter (4, 256, bindings_ok))
local macro_rules | `(tactic| walk_at "call ref") => `(tactic| tbr_iter (4, 263, handlers_ok))
local macro_rules | `(tactic| walk_at "call ref") => `(tactic| (tbr_iter (0, 287); k_dflt (refine' wpAny_call (standing_new ?X ?T ?D ?_); walk_at "XK"; walk_at "D"; intro h' tk' x' d' h1' h2' h3' k1' k2' k3' hk' hx' hd' eD' eX'; have kF' := Fr.keeps (by k_asm) hk'; have kN' := (news_two (by k_asm) (by k_asm) hk' hx' hd' eD' eX').1; have kl1 := (news_two (by k_asm) (by k_asm) hk' hx' hd' eD' eX').2.1; have kl2 := (news_two (by k_asm) (by k_asm) hk' hx' hd' eD' eX').2.2; clear hk' hx' hd' eD' eX'; (try k_lt kl1); (try dsimp only))))
section
variable {w : World} {s : Shared} {mg mb : Str → Option Value} {dp un : Nat} {fr : Option (List Env)} {gd : Option (List Code)} {R : Result → Shared → Prop}
theorem after_pop {i a : Addr} {t1 t2 : Tok} {st : St} (X : (kk.heap_1 w.params).In s.heap) (T : TopRead vw (looseW vw [Str.ofString "ROWS"]) mg mb s.heap) (hD : dp + 5 ≤ 400) (hU : un + 50 ≤ 5000)
    (hi : IsTup s.heap i #[.str Op.pop.word t1, .int Op.pop.arg t2]) {σ : Store} (hσ : Sub σ (hSt s.heap)) (hs : StandAt σ a st) (ho : Op.pop.Ok st)
    (hR : ∀ h' tk b, s.heap.StaysIn h' → StandAt (Ext σ s.heap h') b (Op.pop.step st) → R (.ok (.ret (.ref b))) { s with heap := h', toks := tk }) : codeAny (model PySem.Challenge.rw_rg0136_01.row.toRowW.prog w) (Ar dp un fr gd) (.call (.ref 312) ⟨[.ref i, .ref a], []⟩) R s := by
  have hneed := ho.need
  have hbnd := ho.bnd
  have hk : Op.pop.hands = -1 := rfl
  refine Classical.byContradiction fun hn9 => ?_
  obtain ⟨d, l, h1, h2, h3, k1, k2, k3, tv, tb, hs1, hs2, hvs, ⟨ln, hl⟩, halls⟩ := hs
  (refine hn9 ?_; clear hn9)
  have hs1 := hσ _ _ hs1
  have hs2 := hσ _ _ hs2
  have hl := hσ _ _ hl
  have hall := halls.hands hσ
  have hL : s.heap.IsList l hvs.toArray := ⟨_, hl, rfl, _, rfl⟩
  have hz : hvs.length ≤ 1000 := by rw [hall.length]; exact ho.size
  have hrd := hands_reads hall
  have hsh := hands_shaped st.hs
  refine Classical.byContradiction fun hn9 => ?_
  obtain ⟨x0, hx0, hx1⟩ := ho.popd (by decide)
  (refine hn9 ?_; clear hn9)
  rcases hall.last with ⟨rfl, e2⟩ | ⟨p, y, q, z, rfl, e2, hp, hy⟩
  · rw [e2] at hx0; simp at hx0
  have hzz : z = x0 := by rw [e2] at hx0; simpa using hx0
  subst hzz
  refine Classical.byContradiction fun hn9 => ?_
  obtain ⟨ya, u1, u2, u3, rfl, hyt⟩ := hy
  (refine hn9 ?_; clear hn9)
  have hyT := hyt.isTup
  have hps : All2 (HandAt σ) p q := by have := halls.dropLast; rw [e2] at this; simpa using this
  have hdl : st.hs.dropLast = q := by rw [e2]; simp
  have hrp := hands_reads hp
  have hshp := hands_shaped q
  have htop := ho.top
  generalize hoo : Op.pop = o at *
  rcases hp.last with ⟨rfl, e3⟩ | ⟨p', y', q', z', rfl, e3, hp', hy'⟩
  · refine' enter (K := kk.heap_1 _) (binds := [(Str.ofString "instruction", .ref i), (Str.ofString "standing", .ref a)]) ?k3 ?k5 ?k6 ?k7 ?k8 ?k9 ?kB ?_ ?c2 ?c3 ?c4 ?c5; (case k3 => assumption); (case k5 => exact TopRead.nolimit (by k_asm)); (case k6 => k_is); (case k7 => k_is); (case k8 => ktr_room); (case k9 => exact BindsTo.of_eq rfl); (case c5 => decide); (case kB => exact locs rfl); (case c2 => exact rfl); (case c3 => exact rfl); (case c4 => exact rfl); intro L' h₁ F N; (try dsimp only); k_fold
    k_steps
    all_goals first
      | (exfalso; contradiction)
      | exact hR _ _ _ (Fr.keep (by k_asm)) (stand_intro (News.ext (by k_asm) (by k_mem)) (News.ext (by k_asm) (by k_mem)) (News.ext (by k_asm) (by k_mem)) (hps.hands sub_ext) (by rw [Op.step, ← hdl, ← hoo]; rfl))
  · have htop' := htop z' (by rw [← hoo]; show st.hs.dropLast.getLast? = some z'; rw [hdl, e3]; simp)
    refine Classical.byContradiction fun hn9 => ?_
    obtain ⟨ya', u1', u2', u3', rfl, hyt'⟩ := hy'
    (refine hn9 ?_; clear hn9)
    have hyT' := hyt'.isTup
    refine' enter (K := kk.heap_1 _) (binds := [(Str.ofString "instruction", .ref i), (Str.ofString "standing", .ref a)]) ?k3 ?k5 ?k6 ?k7 ?k8 ?k9 ?kB ?_ ?c2 ?c3 ?c4 ?c5; (case k3 => assumption); (case k5 => exact TopRead.nolimit (by k_asm)); (case k6 => k_is); (case k7 => k_is); (case k8 => ktr_room); (case k9 => exact BindsTo.of_eq rfl); (case c5 => decide); (case kB => exact locs rfl); (case c2 => exact rfl); (case c3 => exact rfl); (case c4 => exact rfl); intro L' h₁ F N; (try dsimp only); k_fold
    k_steps
    all_goals first
      | (exfalso; contradiction)
      | exact hR _ _ _ (Fr.keep (by k_asm)) (stand_intro (News.ext (by k_asm) (by k_mem)) (News.ext (by k_asm) (by k_mem)) (News.ext (by k_asm) (by k_mem)) (hps.hands sub_ext) (by rw [Op.step, ← hdl, ← hoo]; rfl))
end
end
section
set_option maxRecDepth 100000
set_option maxHeartbeats 8000000
section
variable {w : World} {s : Shared} {mg mb : Str → Option Value} {dp un : Nat} {fr : Option (List Env)} {gd : Option (List Code)} {R : Result → Shared → Prop}
theorem after_ok {i a : Addr} {t1 t2 : Tok} (o : Op) {st : St} (X : (kk.heap_1 w.params).In s.heap) (T : TopRead vw (looseW vw [Str.ofString "ROWS"]) mg mb s.heap) (hD : dp + 5 ≤ 400) (hU : un + 50 ≤ 5000)
    (hi : IsTup s.heap i #[.str o.word t1, .int o.arg t2]) {σ : Store} (hσ : Sub σ (hSt s.heap)) (hs : StandAt σ a st) (ho : o.Ok st)
    (hR : ∀ h' tk b, s.heap.StaysIn h' → StandAt (Ext σ s.heap h') b (o.step st) → R (.ok (.ret (.ref b))) { s with heap := h', toks := tk }) : codeAny (model PySem.Challenge.rw_rg0136_01.row.toRowW.prog w) (Ar dp un fr gd) (.call (.ref 312) ⟨[.ref i, .ref a], []⟩) R s := by
  cases o
  case pcatch => exact after_catch X T hD hU hi hσ hs ho hR
  case pop => exact after_pop X T hD hU hi hσ hs ho hR
  all_goals exact after_plain X T hD hU hi hσ hs ho rfl rfl hR
theorem told_ok {a : Addr} {st : St} (X : (kk.heap_1 w.params).In s.heap) (T : TopRead vw (looseW vw [Str.ofString "ROWS"]) mg mb s.heap) (hD : dp + 5 ≤ 400) (hz : st.hs.length ≤ 1000)
    {σ : Store} (hσ : Sub σ (hSt s.heap)) (hs : StandAt σ a st)
    (hR : ∀ h' tk v, s.heap.StaysIn h' → ToldAt (Ext σ s.heap h') v st → R (.ok (.ret v)) { s with heap := h', toks := tk }) : codeAny (model PySem.Challenge.rw_rg0136_01.row.toRowW.prog w) (Ar dp un fr gd) (.call (.ref 284) ⟨[.ref a], []⟩) R s := by
  refine Classical.byContradiction fun hn9 => ?_
  obtain ⟨d, l, h1, h2, h3, k1, k2, k3, tv, tb, hs1, hs2, hvs, ⟨ln, hl⟩, halls⟩ := hs
  (refine hn9 ?_; clear hn9)
  have hs1 := hσ _ _ hs1
  have hs2 := hσ _ _ hs2
  have hl := hσ _ _ hl
  have hall := halls.hands hσ
  have hL : s.heap.IsList l hvs.toArray := ⟨_, hl, rfl, _, rfl⟩
  have hz : hvs.length ≤ 1000 := by rw [hall.length]; exact hz
  have hrd := hands_reads hall
  refine' enter (K := kk.heap_1 _) (binds := [(Str.ofString "self", .ref a)]) ?k3 ?k5 ?k6 ?k7 ?k8 ?k9 ?kB ?_ ?c2 ?c3 ?c4 ?c5; (case k3 => assumption); (case k5 => exact TopRead.nolimit (by k_asm)); (case k6 => k_is); (case k7 => k_is); (case k8 => ktr_room); (case k9 => exact BindsTo.of_eq rfl); (case c5 => decide); (case kB => exact locs rfl); (case c2 => exact rfl); (case c3 => exact rfl); (case c4 => exact rfl); intro L' h₁ F N; (try dsimp only); k_fold
  k_steps
  exact hR _ _ _ (Fr.keep (by k_asm)) ⟨_, _, _, _, _, rfl, ⟨_, News.ext (by k_asm) (by k_mem)⟩, ⟨_, News.ext (by k_asm) (by k_mem)⟩, halls.hands sub_ext⟩
theorem call_after {h₀ : Heap} {L : Addr} {m : Str → Option Value} {news imm : List (Addr × Obj)} {E : Value → Shared → Prop} {Q : Value → Shared → Prop} {σ : Store} {i a : Addr} {t1 t2 : Tok} (o : Op) {st : St} (F : Fr h₀ L s.heap m) (N : News h₀ L s.heap news) (hσ : Sub σ (hSt h₀)) (X : (kk.heap_1 w.params).In h₀) (T : TopRead vw (looseW vw [Str.ofString "ROWS"]) mg mb h₀) (hD : dp + 5 ≤ 400) (hU : un + 50 ≤ 5000)
    (hi : IsTup s.heap i #[.str o.word t1, .int o.arg t2]) (hs : StandAt (Hs σ imm) a st) (hm : ∀ p ∈ imm, p ∈ news) (ho : o.Ok st)
    (hR : ∀ h' tk b new, s.heap.StaysIn h' → Fr h₀ L h' m → News h₀ L h' new → (∀ p ∈ new, s.heap.get? p.1 = none) → StandAt (Hs σ (new ++ imm)) b (o.step st) → Q (.ref b) { s with heap := h', toks := tk }) :
    wpAny (model PySem.Challenge.rw_rg0136_01.row.toRowW.prog w) (Ar dp un fr gd) (call (.ref 312) [.ref i, .ref a]) Q E s := by
  refine wpAny_call (after_ok o (X.keeps F.keep) (T.keeps F.keep) hD hU hi (hs_sub F N hσ hm) hs ho fun h' tk b hk hb => ?_)
  refine Classical.byContradiction fun hn9 => ?_
  obtain ⟨new, n1, n2, n3⟩ := grown (σ := σ) (imm := imm) F hk
  (refine hn9 ?_; clear hn9)
  exact hR h' tk b new hk (F.keeps hk) n1 n2 (hb.mono n3)
theorem call_told {h₀ : Heap} {L : Addr} {m : Str → Option Value} {news imm : List (Addr × Obj)} {E : Value → Shared → Prop} {Q : Value → Shared → Prop} {σ : Store} {a : Addr} {st : St} (F : Fr h₀ L s.heap m) (N : News h₀ L s.heap news) (hσ : Sub σ (hSt h₀)) (X : (kk.heap_1 w.params).In h₀) (T : TopRead vw (looseW vw [Str.ofString "ROWS"]) mg mb h₀) (hD : dp + 5 ≤ 400)
    (hs : StandAt (Hs σ imm) a st) (hm : ∀ p ∈ imm, p ∈ news) (hz : st.hs.length ≤ 1000)
    (hR : ∀ h' tk b new, s.heap.StaysIn h' → Fr h₀ L h' m → News h₀ L h' new → (∀ p ∈ new, s.heap.get? p.1 = none) → ToldAt (Hs σ (new ++ imm)) b st → Q b { s with heap := h', toks := tk }) :
    wpAny (model PySem.Challenge.rw_rg0136_01.row.toRowW.prog w) (Ar dp un fr gd) (call (.ref 284) [.ref a]) Q E s := by
  refine wpAny_call (told_ok (X.keeps F.keep) (T.keeps F.keep) hD hz (hs_sub F N hσ hm) hs fun h' tk b hk hb => ?_)
  refine Classical.byContradiction fun hn9 => ?_
  obtain ⟨new, n1, n2, n3⟩ := grown (σ := σ) (imm := imm) F hk
  (refine hn9 ?_; clear hn9)
  exact hR h' tk b new hk (F.keeps hk) n1 n2 (hb.mono n3)
end
end
section
set_option maxRecDepth 100000
set_option maxHeartbeats 8000000
local macro_rules | `(tactic| walk_at "call ref") => `(tactic| (with_reducible refine hold ?_))
local macro_rules | `(tactic| walk_at "call ref") => `(tactic| (tbr_iter (0, 287); k_dflt (refine' wpAny_call (standing_new ?X ?T ?D ?_); walk_at "XK"; walk_at "D"; intro h' tk' x' d' h1' h2' h3' k1' k2' k3' hk' hx' hd' eD' eX'; have kF' := Fr.keeps (by k_asm) hk'; have kN' := (news_two (by k_asm) (by k_asm) hk' hx' hd' eD' eX').1; have kl1 := (news_two (by k_asm) (by k_asm) hk' hx' hd' eD' eX').2.1; have kl2 := (news_two (by k_asm) (by k_asm) hk' hx' hd' eD' eX').2.2; clear hk' hx' hd' eD' eX'; (try k_lt kl1); (try dsimp only))))
local macro_rules | `(tactic| k_all) => `(tactic| first | assumption | exact allNe_of (by first | assumption | exact And.right (by assumption) | exact And.right (And.right (by assumption)) | exact And.right (And.right (And.right (by assumption)))))
section
variable {w : World} {s : Shared} {mg mb : Str → Option Value} {dp un : Nat} {fr : Option (List Env)} {gd : Option (List Code)} {R : Result → Shared → Prop}
theorem ways_gnil (p0 : Int) {i a : Addr} {t1 t2 tp : Tok} {st : St} (place : Int) (X : (kk.heap_1 w.params).In s.heap) (T : TopRead vw (looseW vw [Str.ofString "ROWS"]) mg mb s.heap) (hD : dp + 6 ≤ 400) (hU : un + 60 ≤ 5000) (hi : IsTup s.heap i #[.str (Op.gnil p0).word t1, .int (Op.gnil p0).arg t2]) {σ : Store} (hσ : Sub σ (hSt s.heap)) (hs : StandAt σ a st) (ho : (Op.gnil p0).Ok st) (hz : ((Op.gnil p0).step st).hs.length ≤ 1000) (hR : ∀ h' tk b, s.heap.StaysIn h' → WaysAt (Ext σ s.heap h') b ((Op.gnil p0).ways place st) → R (.ok (.ret (.ref b))) { s with heap := h', toks := tk }) : codeAny (model PySem.Challenge.rw_rg0136_01.row.toRowW.prog w) (Ar dp un fr gd) (.call (.ref 319) ⟨[.ref i, .int place tp, .ref a], []⟩) R s := by
  have hi2 : IsTup s.heap i #[.str (Str.ofString "gotoifnil") t1, .int p0 t2] := hi
  clear hi
  have hs0 : StandAt (Hs σ []) a st := hs.mono fun _ _ e => .inl e
  refine' enter (K := kk.heap_1 _) (binds := [(Str.ofString "instruction", .ref i), (Str.ofString "place", .int place tp), (Str.ofString "standing", .ref a)]) ?k3 ?k5 ?k6 ?k7 ?k8 ?k9 ?kB ?_ ?c2 ?c3 ?c4 ?c5; (case k3 => assumption); (case k5 => exact TopRead.nolimit (by k_asm)); (case k6 => k_is); (case k7 => k_is); (case k8 => ktr_room); (case k9 => exact BindsTo.of_eq rfl); (case c5 => decide); (case kB => exact locs rfl); (case c2 => exact rfl); (case c3 => exact rfl); (case c4 => exact rfl); intro L' h₁ F N; (try dsimp only); k_fold
  k_steps
  unfold Hold
  k_dflt (refine' call_after (Op.gnil p0) ?F ?N ?S ?X ?T ?D ?U ?i ?a ?m ?o ?_; (case F => k_asm); (case N => k_asm); (case S => assumption); (case X => k_asm); (case T => k_asm); (case D => ((try simp only [Ar, depth_deeper, units_deeper, recursionLimit, cLine] at *); omega)); (case U => ((try simp only [Ar, depth_deeper, units_deeper, recursionLimit, cLine] at *); omega)); (case i => first | assumption | exact Fr.tup (by k_asm) (by assumption)); (case a => assumption); (case m => (intro p9 hp9; repeat (first | assumption | refine List.mem_cons_of_mem _ ?_))); (case o => assumption))
  intro h' tk' b' imm hk' F' n' hf' ha'
  rw [List.append_nil] at ha'
  clear hk'
  have hlat := ha'
  refine Classical.byContradiction fun hn9 => ?_
  obtain ⟨d', l', q1, q2, q3, r1, r2, r3, rv, rb, hb1, hb2, hb3⟩ := ha'
  (refine hn9 ?_; clear hn9)
  (try dsimp only)
  k_steps
  refine Classical.byContradiction fun hn9 => ?_
  obtain ⟨vs5, ⟨n5, hb4⟩, hb5⟩ := hb3
  (refine hn9 ?_; clear hn9)
  exact hR _ _ _ (Fr.keep (by k_asm)) ⟨_, ⟨_, News.ext (by k_asm) (by k_mem)⟩, .cons ⟨_, _, _, rfl, ⟨_, News.ext (by k_asm) (by k_mem)⟩, hlat.mono (hs_ext (by k_asm) (by (intro p9 hp9; repeat (first | assumption | refine List.mem_cons_of_mem _ ?_))))⟩ (.cons ⟨_, _, _, rfl, ⟨_, News.ext (by k_asm) (by k_mem)⟩, hlat.mono (hs_ext (by k_asm) (by (intro p9 hp9; repeat (first | assumption | refine List.mem_cons_of_mem _ ?_))))⟩ .nil)⟩
theorem ways_gnilpop (p0 : Int) {i a : Addr} {t1 t2 tp : Tok} {st : St} (place : Int) (X : (kk.heap_1 w.params).In s.heap) (T : TopRead vw (looseW vw [Str.ofString "ROWS"]) mg mb s.heap) (hD : dp + 6 ≤ 400) (hU : un + 60 ≤ 5000) (hi : IsTup s.heap i #[.str (Op.gnilpop p0).word t1, .int (Op.gnilpop p0).arg t2]) {σ : Store} (hσ : Sub σ (hSt s.heap)) (hs : StandAt σ a st) (ho : (Op.gnilpop p0).Ok st) (hz : ((Op.gnilpop p0).step st).hs.length ≤ 1000) (hR : ∀ h' tk b, s.heap.StaysIn h' → WaysAt (Ext σ s.heap h') b ((Op.gnilpop p0).ways place st) → R (.ok (.ret (.ref b))) { s with heap := h', toks := tk }) : codeAny (model PySem.Challenge.rw_rg0136_01.row.toRowW.prog w) (Ar dp un fr gd) (.call (.ref 319) ⟨[.ref i, .int place tp, .ref a], []⟩) R s := by
  have hi2 : IsTup s.heap i #[.str (Str.ofString "gotoifnilelsepop") t1, .int p0 t2] := hi
  clear hi
  have hs0 : StandAt (Hs σ []) a st := hs.mono fun _ _ e => .inl e
  refine' enter (K := kk.heap_1 _) (binds := [(Str.ofString "instruction", .ref i), (Str.ofString "place", .int place tp), (Str.ofString "standing", .ref a)]) ?k3 ?k5 ?k6 ?k7 ?k8 ?k9 ?kB ?_ ?c2 ?c3 ?c4 ?c5; (case k3 => assumption); (case k5 => exact TopRead.nolimit (by k_asm)); (case k6 => k_is); (case k7 => k_is); (case k8 => ktr_room); (case k9 => exact BindsTo.of_eq rfl); (case c5 => decide); (case kB => exact locs rfl); (case c2 => exact rfl); (case c3 => exact rfl); (case c4 => exact rfl); intro L' h₁ F N; (try dsimp only); k_fold
  k_steps
  unfold Hold
  k_dflt (refine' call_after (Op.gnilpop p0) ?F ?N ?S ?X ?T ?D ?U ?i ?a ?m ?o ?_; (case F => k_asm); (case N => k_asm); (case S => assumption); (case X => k_asm); (case T => k_asm); (case D => ((try simp only [Ar, depth_deeper, units_deeper, recursionLimit, cLine] at *); omega)); (case U => ((try simp only [Ar, depth_deeper, units_deeper, recursionLimit, cLine] at *); omega)); (case i => first | assumption | exact Fr.tup (by k_asm) (by assumption)); (case a => assumption); (case m => (intro p9 hp9; repeat (first | assumption | refine List.mem_cons_of_mem _ ?_))); (case o => assumption))
  intro h' tk' b' imm hk' F' n' hf' ha'
  rw [List.append_nil] at ha'
  clear hk'
  have hlat := ha'
  refine Classical.byContradiction fun hn9 => ?_
  obtain ⟨d', l', q1, q2, q3, r1, r2, r3, rv, rb, hb1, hb2, hb3⟩ := ha'
  (refine hn9 ?_; clear hn9)
  (try dsimp only)
  k_steps
  refine Classical.byContradiction fun hn9 => ?_
  obtain ⟨vs5, ⟨n5, hb4⟩, hb5⟩ := hb3
  (refine hn9 ?_; clear hn9)
  exact hR _ _ _ (Fr.keep (by k_asm)) ⟨_, ⟨_, News.ext (by k_asm) (by k_mem)⟩, .cons ⟨_, _, _, rfl, ⟨_, News.ext (by k_asm) (by k_mem)⟩, hlat.mono (hs_ext (by k_asm) (by (intro p9 hp9; repeat (first | assumption | refine List.mem_cons_of_mem _ ?_))))⟩ (.cons ⟨_, _, _, rfl, ⟨_, News.ext (by k_asm) (by k_mem)⟩, stand_intro (News.ext (by k_asm) (by k_mem)) (News.ext (by k_asm) (by k_mem)) (hs_ext (by k_asm) (by (intro p9 hp9; repeat (first | assumption | refine List.mem_cons_of_mem _ ?_))) _ _ hb4) (hb5.hands (hs_ext (by k_asm) (by (intro p9 hp9; repeat (first | assumption | refine List.mem_cons_of_mem _ ?_))))) rfl⟩ .nil)⟩
theorem ways_gnonpop (p0 : Int) {i a : Addr} {t1 t2 tp : Tok} {st : St} (place : Int) (X : (kk.heap_1 w.params).In s.heap) (T : TopRead vw (looseW vw [Str.ofString "ROWS"]) mg mb s.heap) (hD : dp + 6 ≤ 400) (hU : un + 60 ≤ 5000) (hi : IsTup s.heap i #[.str (Op.gnonpop p0).word t1, .int (Op.gnonpop p0).arg t2]) {σ : Store} (hσ : Sub σ (hSt s.heap)) (hs : StandAt σ a st) (ho : (Op.gnonpop p0).Ok st) (hz : ((Op.gnonpop p0).step st).hs.length ≤ 1000) (hR : ∀ h' tk b, s.heap.StaysIn h' → WaysAt (Ext σ s.heap h') b ((Op.gnonpop p0).ways place st) → R (.ok (.ret (.ref b))) { s with heap := h', toks := tk }) : codeAny (model PySem.Challenge.rw_rg0136_01.row.toRowW.prog w) (Ar dp un fr gd) (.call (.ref 319) ⟨[.ref i, .int place tp, .ref a], []⟩) R s := by
  have hi2 : IsTup s.heap i #[.str (Str.ofString "gotoifnonnilelsepop") t1, .int p0 t2] := hi
  clear hi
  have hs0 : StandAt (Hs σ []) a st := hs.mono fun _ _ e => .inl e
  refine' enter (K := kk.heap_1 _) (binds := [(Str.ofString "instruction", .ref i), (Str.ofString "place", .int place tp), (Str.ofString "standing", .ref a)]) ?k3 ?k5 ?k6 ?k7 ?k8 ?k9 ?kB ?_ ?c2 ?c3 ?c4 ?c5; (case k3 => assumption); (case k5 => exact TopRead.nolimit (by k_asm)); (case k6 => k_is); (case k7 => k_is); (case k8 => ktr_room); (case k9 => exact BindsTo.of_eq rfl); (case c5 => decide); (case kB => exact locs rfl); (case c2 => exact rfl); (case c3 => exact rfl); (case c4 => exact rfl); intro L' h₁ F N; (try dsimp only); k_fold
  k_steps
  unfold Hold
  k_dflt (refine' call_after (Op.gnonpop p0) ?F ?N ?S ?X ?T ?D ?U ?i ?a ?m ?o ?_; (case F => k_asm); (case N => k_asm); (case S => assumption); (case X => k_asm); (case T => k_asm); (case D => ((try simp only [Ar, depth_deeper, units_deeper, recursionLimit, cLine] at *); omega)); (case U => ((try simp only [Ar, depth_deeper, units_deeper, recursionLimit, cLine] at *); omega)); (case i => first | assumption | exact Fr.tup (by k_asm) (by assumption)); (case a => assumption); (case m => (intro p9 hp9; repeat (first | assumption | refine List.mem_cons_of_mem _ ?_))); (case o => assumption))
  intro h' tk' b' imm hk' F' n' hf' ha'
  rw [List.append_nil] at ha'
  clear hk'
  have hlat := ha'
  refine Classical.byContradiction fun hn9 => ?_
  obtain ⟨d', l', q1, q2, q3, r1, r2, r3, rv, rb, hb1, hb2, hb3⟩ := ha'
  (refine hn9 ?_; clear hn9)
  (try dsimp only)
  k_steps
  refine Classical.byContradiction fun hn9 => ?_
  obtain ⟨vs5, ⟨n5, hb4⟩, hb5⟩ := hb3
  (refine hn9 ?_; clear hn9)
  exact hR _ _ _ (Fr.keep (by k_asm)) ⟨_, ⟨_, News.ext (by k_asm) (by k_mem)⟩, .cons ⟨_, _, _, rfl, ⟨_, News.ext (by k_asm) (by k_mem)⟩, hlat.mono (hs_ext (by k_asm) (by (intro p9 hp9; repeat (first | assumption | refine List.mem_cons_of_mem _ ?_))))⟩ (.cons ⟨_, _, _, rfl, ⟨_, News.ext (by k_asm) (by k_mem)⟩, stand_intro (News.ext (by k_asm) (by k_mem)) (News.ext (by k_asm) (by k_mem)) (hs_ext (by k_asm) (by (intro p9 hp9; repeat (first | assumption | refine List.mem_cons_of_mem _ ?_))) _ _ hb4) (hb5.hands (hs_ext (by k_asm) (by (intro p9 hp9; repeat (first | assumption | refine List.mem_cons_of_mem _ ?_))))) rfl⟩ .nil)⟩
theorem ways_goto (p0 : Int) {i a : Addr} {t1 t2 tp : Tok} {st : St} (place : Int) (X : (kk.heap_1 w.params).In s.heap) (T : TopRead vw (looseW vw [Str.ofString "ROWS"]) mg mb s.heap) (hD : dp + 6 ≤ 400) (hU : un + 60 ≤ 5000) (hi : IsTup s.heap i #[.str (Op.goto p0).word t1, .int (Op.goto p0).arg t2]) {σ : Store} (hσ : Sub σ (hSt s.heap)) (hs : StandAt σ a st) (ho : (Op.goto p0).Ok st) (hz : ((Op.goto p0).step st).hs.length ≤ 1000) (hR : ∀ h' tk b, s.heap.StaysIn h' → WaysAt (Ext σ s.heap h') b ((Op.goto p0).ways place st) → R (.ok (.ret (.ref b))) { s with heap := h', toks := tk }) : codeAny (model PySem.Challenge.rw_rg0136_01.row.toRowW.prog w) (Ar dp un fr gd) (.call (.ref 319) ⟨[.ref i, .int place tp, .ref a], []⟩) R s := by
  have hi2 : IsTup s.heap i #[.str (Str.ofString "goto") t1, .int p0 t2] := hi
  clear hi
  have hs0 : StandAt (Hs σ []) a st := hs.mono fun _ _ e => .inl e
  refine' enter (K := kk.heap_1 _) (binds := [(Str.ofString "instruction", .ref i), (Str.ofString "place", .int place tp), (Str.ofString "standing", .ref a)]) ?k3 ?k5 ?k6 ?k7 ?k8 ?k9 ?kB ?_ ?c2 ?c3 ?c4 ?c5; (case k3 => assumption); (case k5 => exact TopRead.nolimit (by k_asm)); (case k6 => k_is); (case k7 => k_is); (case k8 => ktr_room); (case k9 => exact BindsTo.of_eq rfl); (case c5 => decide); (case kB => exact locs rfl); (case c2 => exact rfl); (case c3 => exact rfl); (case c4 => exact rfl); intro L' h₁ F N; (try dsimp only); k_fold
  k_steps
  unfold Hold
  k_dflt (refine' call_after (Op.goto p0) ?F ?N ?S ?X ?T ?D ?U ?i ?a ?m ?o ?_; (case F => k_asm); (case N => k_asm); (case S => assumption); (case X => k_asm); (case T => k_asm); (case D => ((try simp only [Ar, depth_deeper, units_deeper, recursionLimit, cLine] at *); omega)); (case U => ((try simp only [Ar, depth_deeper, units_deeper, recursionLimit, cLine] at *); omega)); (case i => first | assumption | exact Fr.tup (by k_asm) (by assumption)); (case a => assumption); (case m => (intro p9 hp9; repeat (first | assumption | refine List.mem_cons_of_mem _ ?_))); (case o => assumption))
  intro h' tk' b' imm hk' F' n' hf' ha'
  rw [List.append_nil] at ha'
  clear hk'
  have hlat := ha'
  refine Classical.byContradiction fun hn9 => ?_
  obtain ⟨d', l', q1, q2, q3, r1, r2, r3, rv, rb, hb1, hb2, hb3⟩ := ha'
  (refine hn9 ?_; clear hn9)
  (try dsimp only)
  k_steps
  exact hR _ _ _ (Fr.keep (by k_asm)) ⟨_, ⟨_, News.ext (by k_asm) (by k_mem)⟩, .cons ⟨_, _, _, rfl, ⟨_, News.ext (by k_asm) (by k_mem)⟩, hlat.mono (hs_ext (by k_asm) (by (intro p9 hp9; repeat (first | assumption | refine List.mem_cons_of_mem _ ?_))))⟩ .nil⟩
theorem ways_other (op : Op) (w1 : (op.word == Str.ofString "return") = false) (w2 : (op.word == Str.ofString "goto") = false) (w3 : ([Str.ofString "gotoifnil", Str.ofString "gotoifnonnil"].any fun x => x == op.word) = false)
    (w5 : ([Str.ofString "gotoifnilelsepop", Str.ofString "gotoifnonnilelsepop"].any fun x => x == op.word) = false) (w7 : ([Str.ofString "pushcatch", Str.ofString "pushcondition"].any fun x => x == op.word) = false) (hw : ∀ place st, op.ways place st = [(place + 1, op.step st)]) {i a : Addr} {t1 t2 tp : Tok} {st : St} (place : Int) (X : (kk.heap_1 w.params).In s.heap) (T : TopRead vw (looseW vw [Str.ofString "ROWS"]) mg mb s.heap) (hD : dp + 6 ≤ 400) (hU : un + 60 ≤ 5000) (hi : IsTup s.heap i #[.str op.word t1, .int op.arg t2]) {σ : Store} (hσ : Sub σ (hSt s.heap)) (hs : StandAt σ a st) (ho : op.Ok st) (hz : (op.step st).hs.length ≤ 1000) (hR : ∀ h' tk b, s.heap.StaysIn h' → WaysAt (Ext σ s.heap h') b (op.ways place st) → R (.ok (.ret (.ref b))) { s with heap := h', toks := tk }) : codeAny (model PySem.Challenge.rw_rg0136_01.row.toRowW.prog w) (Ar dp un fr gd) (.call (.ref 319) ⟨[.ref i, .int place tp, .ref a], []⟩) R s := by
  have hs0 : StandAt (Hs σ []) a st := hs.mono fun _ _ e => .inl e
  refine' enter (K := kk.heap_1 _) (binds := [(Str.ofString "instruction", .ref i), (Str.ofString "place", .int place tp), (Str.ofString "standing", .ref a)]) ?k3 ?k5 ?k6 ?k7 ?k8 ?k9 ?kB ?_ ?c2 ?c3 ?c4 ?c5; (case k3 => assumption); (case k5 => exact TopRead.nolimit (by k_asm)); (case k6 => k_is); (case k7 => k_is); (case k8 => ktr_room); (case k9 => exact BindsTo.of_eq rfl); (case c5 => decide); (case kB => exact locs rfl); (case c2 => exact rfl); (case c3 => exact rfl); (case c4 => exact rfl); intro L' h₁ F N; (try dsimp only); k_fold
  k_steps
  unfold Hold
  k_dflt (refine' call_after op ?F ?N ?S ?X ?T ?D ?U ?i ?a ?m ?o ?_; (case F => k_asm); (case N => k_asm); (case S => assumption); (case X => k_asm); (case T => k_asm); (case D => ((try simp only [Ar, depth_deeper, units_deeper, recursionLimit, cLine] at *); omega)); (case U => ((try simp only [Ar, depth_deeper, units_deeper, recursionLimit, cLine] at *); omega)); (case i => first | assumption | exact Fr.tup (by k_asm) (by assumption)); (case a => assumption); (case m => (intro p9 hp9; repeat (first | assumption | refine List.mem_cons_of_mem _ ?_))); (case o => assumption))
  intro h' tk' b' imm hk' F' n' hf' ha'
  rw [List.append_nil] at ha'
  clear hk'
  have hlat := ha'
  refine Classical.byContradiction fun hn9 => ?_
  obtain ⟨d', l', q1, q2, q3, r1, r2, r3, rv, rb, hb1, hb2, hb3⟩ := ha'
  (refine hn9 ?_; clear hn9)
  (try dsimp only)
  k_steps
  exact hR _ _ _ (Fr.keep (by k_asm)) (by rw [hw]; exact ⟨_, ⟨_, News.ext (by k_asm) (by k_mem)⟩, .cons ⟨_, _, _, rfl, ⟨_, News.ext (by k_asm) (by k_mem)⟩, hlat.mono (hs_ext (by k_asm) (by (intro p9 hp9; repeat (first | assumption | refine List.mem_cons_of_mem _ ?_))))⟩ .nil⟩)
theorem ways_catch (p0 : Int) {i a : Addr} {t1 t2 tp : Tok} {st : St} (place : Int) (X : (kk.heap_1 w.params).In s.heap) (T : TopRead vw (looseW vw [Str.ofString "ROWS"]) mg mb s.heap) (hD : dp + 6 ≤ 400) (hU : un + 60 ≤ 5000) (hi : IsTup s.heap i #[.str (Op.pcatch p0).word t1, .int (Op.pcatch p0).arg t2]) {σ : Store} (hσ : Sub σ (hSt s.heap)) (hs : StandAt σ a st) (ho : (Op.pcatch p0).Ok st) (hz : ((Op.pcatch p0).step st).hs.length ≤ 1000) (hR : ∀ h' tk b, s.heap.StaysIn h' → WaysAt (Ext σ s.heap h') b ((Op.pcatch p0).ways place st) → R (.ok (.ret (.ref b))) { s with heap := h', toks := tk }) : codeAny (model PySem.Challenge.rw_rg0136_01.row.toRowW.prog w) (Ar dp un fr gd) (.call (.ref 319) ⟨[.ref i, .int place tp, .ref a], []⟩) R s := by
  have hs9 := hs
  refine Classical.byContradiction fun hn9 => ?_
  obtain ⟨d, l, h1, h2, h3, k1, k2, k3, tv, tb, hs1, hs2, hvs, ⟨ln, hl⟩, halls⟩ := hs9
  (refine hn9 ?_; clear hn9)
  have g1 := hσ _ _ hs1
  have g2 := hσ _ _ hs2
  have hi2 : IsTup s.heap i #[.str (Str.ofString "pushcatch") t1, .int p0 t2] := hi
  clear hi
  have hs0 : StandAt (Hs σ []) a st := hs.mono fun _ _ e => .inl e
  refine' enter (K := kk.heap_1 _) (binds := [(Str.ofString "instruction", .ref i), (Str.ofString "place", .int place tp), (Str.ofString "standing", .ref a)]) ?k3 ?k5 ?k6 ?k7 ?k8 ?k9 ?kB ?_ ?c2 ?c3 ?c4 ?c5; (case k3 => assumption); (case k5 => exact TopRead.nolimit (by k_asm)); (case k6 => k_is); (case k7 => k_is); (case k8 => ktr_room); (case k9 => exact BindsTo.of_eq rfl); (case c5 => decide); (case kB => exact locs rfl); (case c2 => exact rfl); (case c3 => exact rfl); (case c4 => exact rfl); intro L' h₁ F N; (try dsimp only); k_fold
  k_steps
  unfold Hold
  k_dflt (refine' call_after (Op.pcatch p0) ?F ?N ?S ?X ?T ?D ?U ?i ?a ?m ?o ?_; (case F => k_asm); (case N => k_asm); (case S => assumption); (case X => k_asm); (case T => k_asm); (case D => ((try simp only [Ar, depth_deeper, units_deeper, recursionLimit, cLine] at *); omega)); (case U => ((try simp only [Ar, depth_deeper, units_deeper, recursionLimit, cLine] at *); omega)); (case i => first | assumption | exact Fr.tup (by k_asm) (by assumption)); (case a => assumption); (case m => (intro p9 hp9; repeat (first | assumption | refine List.mem_cons_of_mem _ ?_))); (case o => assumption))
  intro h' tk' b' imm hk' F' n' hf' ha'
  rw [List.append_nil] at ha'
  clear hk'
  have hlat := ha'
  refine Classical.byContradiction fun hn9 => ?_
  obtain ⟨d', l', q1, q2, q3, r1, r2, r3, rv, rb, hb1, hb2, hb3⟩ := ha'
  (refine hn9 ?_; clear hn9)
  (try dsimp only)
  k_steps
  exact hR _ _ _ (Fr.keep (by k_asm)) ⟨_, ⟨_, News.ext (by k_asm) (by k_mem)⟩, .cons ⟨_, _, _, rfl, ⟨_, News.ext (by k_asm) (by k_mem)⟩, hlat.mono (hs_ext (by k_asm) (by (intro p9 hp9; repeat (first | assumption | refine List.mem_cons_of_mem _ ?_))))⟩ (.cons ⟨_, _, _, rfl, ⟨_, News.ext (by k_asm) (by k_mem)⟩, stand_intro (News.ext (by k_asm) (by k_mem)) (News.ext (by k_asm) (by k_mem)) (.inl hl) (halls.hands sub_ext) rfl⟩ .nil)⟩
theorem ways_ret {i a : Addr} {t1 t2 tp : Tok} {st : St} (place : Int) (X : (kk.heap_1 w.params).In s.heap) (T : TopRead vw (looseW vw [Str.ofString "ROWS"]) mg mb s.heap) (hD : dp + 6 ≤ 400) (hU : un + 60 ≤ 5000) (hi : IsTup s.heap i #[.str Op.ret.word t1, .int Op.ret.arg t2]) {σ : Store} (hσ : Sub σ (hSt s.heap)) (hs : StandAt σ a st) (ho : Op.ret.Ok st) (hz : (Op.ret.step st).hs.length ≤ 1000) (hret : Op.ret.step st = ⟨0, 0, []⟩) (hR : ∀ h' tk b, s.heap.StaysIn h' → WaysAt (Ext σ s.heap h') b (Op.ret.ways place st) → R (.ok (.ret (.ref b))) { s with heap := h', toks := tk }) : codeAny (model PySem.Challenge.rw_rg0136_01.row.toRowW.prog w) (Ar dp un fr gd) (.call (.ref 319) ⟨[.ref i, .int place tp, .ref a], []⟩) R s := by
  have hi2 : IsTup s.heap i #[.str (Str.ofString "return") t1, .int (-1) t2] := hi
  clear hi
  have hs0 : StandAt (Hs σ []) a st := hs.mono fun _ _ e => .inl e
  refine' enter (K := kk.heap_1 _) (binds := [(Str.ofString "instruction", .ref i), (Str.ofString "place", .int place tp), (Str.ofString "standing", .ref a)]) ?k3 ?k5 ?k6 ?k7 ?k8 ?k9 ?kB ?_ ?c2 ?c3 ?c4 ?c5; (case k3 => assumption); (case k5 => exact TopRead.nolimit (by k_asm)); (case k6 => k_is); (case k7 => k_is); (case k8 => ktr_room); (case k9 => exact BindsTo.of_eq rfl); (case c5 => decide); (case kB => exact locs rfl); (case c2 => exact rfl); (case c3 => exact rfl); (case c4 => exact rfl); intro L' h₁ F N; (try dsimp only); k_fold
  k_steps
  unfold Hold
  k_dflt (refine' call_after Op.ret ?F ?N ?S ?X ?T ?D ?U ?i ?a ?m ?o ?_; (case F => k_asm); (case N => k_asm); (case S => assumption); (case X => k_asm); (case T => k_asm); (case D => ((try simp only [Ar, depth_deeper, units_deeper, recursionLimit, cLine] at *); omega)); (case U => ((try simp only [Ar, depth_deeper, units_deeper, recursionLimit, cLine] at *); omega)); (case i => first | assumption | exact Fr.tup (by k_asm) (by assumption)); (case a => assumption); (case m => (intro p9 hp9; repeat (first | assumption | refine List.mem_cons_of_mem _ ?_))); (case o => assumption))
  intro h' tk' b' imm hk' F' n' hf' ha'
  rw [List.append_nil] at ha'
  clear hk'
  have hlat := ha'
  refine Classical.byContradiction fun hn9 => ?_
  obtain ⟨d', l', q1, q2, q3, r1, r2, r3, rv, rb, hb1, hb2, hb3⟩ := ha'
  (refine hn9 ?_; clear hn9)
  (try dsimp only)
  k_steps
  unfold Hold
  k_dflt (refine' call_told ?F ?N ?S ?X ?T ?D ?a ?m ?o ?_; (case F => k_asm); (case N => k_asm); (case S => assumption); (case X => k_asm); (case T => k_asm); (case D => ((try simp only [Ar, depth_deeper, units_deeper, recursionLimit, cLine] at *); omega)); (case a => assumption); (case m => (intro p9 hp9; repeat (first | assumption | refine List.mem_cons_of_mem _ ?_))); (case o => assumption))
  intro h2' tk2' v2 new2 hk2 kF2 kn2 hf2 ht2
  have kN2 := news_app kn2 (News.grown (by k_asm) hk2)
  generalize new2 ++ imm = imm2 at *
  clear hk2
  (try dsimp only)
  k_steps
  rw [hret] at ht2
  refine eq_dataH (db := .tuple [.int 0, .int 0, .tuple []]) (told_reads (ht2.mono (hs_sub (by k_asm) (by k_asm) hσ (by (intro p9 hp9; repeat (first | assumption | refine List.mem_cons_of_mem _ ?_)))))) (reads_tuple_at (News.get (by k_asm) (by k_mem)) rfl rfl (readsAll_cons_val (.int _ _) (readsAll_cons_val (.int _ _) (readsAll_cons_val (reads_tuple_at (News.get (by k_asm) (by k_mem)) rfl rfl .nil) .nil)))) (told_shaped _) rfl (by ((try simp only [Ar, depth_deeper, units_deeper, recursionLimit, cLine] at *); omega)) ?_
  rw [show PyData.eqv (toldD ⟨0, 0, []⟩) (.tuple [.int 0, .int 0, .tuple []]) = true from rfl]
  k_steps
  exact hR _ _ _ (Fr.keep (by k_asm)) ⟨_, ⟨_, News.ext (by k_asm) (by k_mem)⟩, .nil⟩
end
end
end Mine
end
section
open PySem PySem.W PyProof.Rows PySem.Calls
set_option maxRecDepth 100000
set_option maxHeartbeats 8000000
namespace Mine
section
variable {w : World} {s : Shared} {mg mb : Str → Option Value} {dp un : Nat} {fr : Option (List Env)} {gd : Option (List Code)} {R : Result → Shared → Prop}
theorem ways_ok (o : Op) {i a : Addr} {t1 t2 tp : Tok} {st : St} (place : Int) (X : (kk.heap_1 w.params).In s.heap) (T : TopRead vw (looseW vw [Str.ofString "ROWS"]) mg mb s.heap) (hD : dp + 6 ≤ 400) (hU : un + 60 ≤ 5000) (hi : IsTup s.heap i #[.str o.word t1, .int o.arg t2]) {σ : Store} (hσ : Sub σ (hSt s.heap)) (hs : StandAt σ a st) (ho : o.Ok st) (hz : (o.step st).hs.length ≤ 1000) (hret : o = .ret → o.step st = ⟨0, 0, []⟩) (hR : ∀ h' tk b, s.heap.StaysIn h' → WaysAt (Ext σ s.heap h') b (o.ways place st) → R (.ok (.ret (.ref b))) { s with heap := h', toks := tk }) : codeAny (model PySem.Challenge.rw_rg0136_01.row.toRowW.prog w) (Ar dp un fr gd) (.call (.ref 319) ⟨[.ref i, .int place tp, .ref a], []⟩) R s := by
  cases o
  case ret => exact ways_ret place X T hD hU hi hσ hs ho hz (hret rfl) hR
  case goto p => exact ways_goto p place X T hD hU hi hσ hs ho hz hR
  case gnil p => exact ways_gnil p place X T hD hU hi hσ hs ho hz hR
  case gnilpop p => exact ways_gnilpop p place X T hD hU hi hσ hs ho hz hR
  case gnonpop p => exact ways_gnonpop p place X T hD hU hi hσ hs ho hz hR
  case pcatch p => exact ways_catch p place X T hD hU hi hσ hs ho hz hR
  all_goals exact ways_other _ (by dsimp only [Op.word]; decide) (by dsimp only [Op.word]; decide) (by dsimp only [Op.word]; decide) (by dsimp only [Op.word]; decide) (by dsimp only [Op.word]; decide) (fun _ _ => rfl) place X T hD hU hi hσ hs ho hz hR
theorem call_ways {h₀ : Heap} {L : Addr} {m : Str → Option Value} {news imm : List (Addr × Obj)} {E : Value → Shared → Prop} {Q : Value → Shared → Prop} {σ : Store} {i a : Addr} {t1 t2 tp : Tok} (o : Op) {st : St} {place : Int} (F : Fr h₀ L s.heap m) (N : News h₀ L s.heap news) (hσ : Sub σ (hSt h₀)) (X : (kk.heap_1 w.params).In h₀) (T : TopRead vw (looseW vw [Str.ofString "ROWS"]) mg mb h₀) (hD : dp + 6 ≤ 400) (hU : un + 60 ≤ 5000)
    (hi : IsTup s.heap i #[.str o.word t1, .int o.arg t2]) (hs : StandAt (Hs σ imm) a st) (hm : ∀ p ∈ imm, p ∈ news) (ho : o.Ok st) (hz : (o.step st).hs.length ≤ 1000) (hret : o = .ret → o.step st = ⟨0, 0, []⟩)
    (hR : ∀ h' tk b new, s.heap.StaysIn h' → Fr h₀ L h' m → News h₀ L h' new → (∀ p ∈ new, s.heap.get? p.1 = none) → WaysAt (Hs σ (new ++ imm)) b (o.ways place st) → Q (.ref b) { s with heap := h', toks := tk }) :
    wpAny (model PySem.Challenge.rw_rg0136_01.row.toRowW.prog w) (Ar dp un fr gd) (call (.ref 319) [.ref i, .int place tp, .ref a]) Q E s := by
  refine wpAny_call (ways_ok o place (X.keeps F.keep) (T.keeps F.keep) hD hU hi (hs_sub F N hσ hm) hs ho hz hret fun h' tk b hk hb => ?_)
  refine Classical.byContradiction fun hn9 => ?_
  obtain ⟨new, n1, n2, n3⟩ := grown (σ := σ) (imm := imm) F hk
  (refine hn9 ?_; clear hn9)
  exact hR h' tk b new hk (F.keeps hk) n1 n2 (hb.mono n3)
end
/-! ## the code object -/
noncomputable abbrev ownDict (h1 h2 h3 h4 h5 h6 : Int) (k1 k2 k3 k4 k5 k6 tt td : Tok) (cl kl : Addr) (dep : Int) : Obj :=
  dictOf [⟨h1, .str (Str.ofString "title") k1, .str (Str.ofString "law") tt⟩, ⟨h2, .str (Str.ofString "told") k2, .none⟩, ⟨h3, .str (Str.ofString "code") k3, .ref cl⟩, ⟨h4, .str (Str.ofString "constants") k4, .ref kl⟩, ⟨h5, .str (Str.ofString "depth") k5, .int dep td⟩, ⟨h6, .str (Str.ofString "interactive") k6, .none⟩] 6
noncomputable def OwnAt (h : Heap) (f cl kl : Addr) (dep : Int) : Prop := ∃ d h1 h2 h3 h4 h5 h6 k1 k2 k3 k4 k5 k6 tt td, h.get? f = some (instObj 219 d) ∧ h.get? d = some (ownDict h1 h2 h3 h4 h5 h6 k1 k2 k3 k4 k5 k6 tt td cl kl dep)
noncomputable abbrev Em : Store := fun _ _ => False
noncomputable def KnownAt (σ : Store) (v : Value) (o : Option St) : Prop := match o with
  | none => v = .none
  | some st => ∃ c, v = .ref c ∧ StandAt σ c st
theorem KnownAt.mono {σ τ : Store} {v o} (h : Sub σ τ) (x : KnownAt σ v o) : KnownAt τ v o := by
  cases o with
  | none => exact x
  | some st => obtain ⟨c, e, y⟩ := x; exact ⟨c, e, y.mono h⟩
theorem knownAt_some {σ : Store} {c : Addr} {st : St} (h : StandAt σ c st) : KnownAt σ (.ref c) (some st) := Exists.intro c ⟨rfl, h⟩
theorem all2_map {α β γ : Type} {P : α → γ → Prop} {f : β → γ} : ∀ {as : List α} {bs : List β}, All2 P as (bs.map f) → All2 (fun a b => P a (f b)) as bs
  | _, [], h => by cases h; exact .nil
  | _, b :: bs, h => by
    cases h with
    | cons x y => exact .cons x (all2_map y)
theorem all2_map' {α β γ : Type} {P : α → γ → Prop} {f : β → γ} {as : List α} {bs : List β} (h : All2 (fun a b => P a (f b)) as bs) : All2 P as (bs.map f) := by
  induction h with
  | nil => exact .nil
  | cons x _ ih => exact .cons x ih
noncomputable def FoundAt (σ : Store) (kl : Addr) (ts : List St) : Prop := ∃ kvs, Lst σ kl kvs ∧ All2 (fun v st => ∃ c, v = Value.ref c ∧ StandAt σ c st) kvs ts
noncomputable def StandsAt (σ : Store) (r : Addr) (ts : List St) : Prop := ∃ kl, Tup σ r [.ref kl, .none] ∧ FoundAt σ kl ts
theorem FoundAt.mono {σ τ : Store} {kl ts} (h : Sub σ τ) (x : FoundAt σ kl ts) : FoundAt τ kl ts := let ⟨kvs, y, z⟩ := x; ⟨kvs, y.mono h, z.mono fun _ _ ⟨c, e, q⟩ => ⟨c, e, q.mono h⟩⟩
theorem StandsAt.mono {σ τ : Store} {r ts} (h : Sub σ τ) (x : StandsAt σ r ts) : StandsAt τ r ts := let ⟨kl, y, z⟩ := x; ⟨kl, y.mono h, z.mono h⟩
end Mine
end
section
open PySem PySem.W PyProof.Rows PySem.Calls
set_option maxRecDepth 100000
set_option maxHeartbeats 1000000
namespace Mine
noncomputable def rowTab : List (Str × Int) := [(Str.ofString "car", 1), (Str.ofString "cdr", 1), (Str.ofString "cons", 2), (Str.ofString "nth", 2), (Str.ofString "nthcdr", 2), (Str.ofString "eq", 2), (Str.ofString "equal", 2), (Str.ofString "not", 1), (Str.ofString "null", 1), (Str.ofString "consp", 1), (Str.ofString "symbolp", 1), (Str.ofString "integerp", 1), (Str.ofString "stringp", 1), (Str.ofString "listp", 1), (Str.ofString "length", 1), (Str.ofString "memq", 2), (Str.ofString "assq", 2), (Str.ofString "nreverse", 1), (Str.ofString "setcar", 2), (Str.ofString "setcdr", 2), (Str.ofString "+", 2), (Str.ofString "-", 2), (Str.ofString "*", 2), (Str.ofString "1+", 1), (Str.ofString "1-", 1), (Str.ofString "=", 2), (Str.ofString "<", 2), (Str.ofString ">", 2), (Str.ofString "<=", 2), (Str.ofString ">=", 2), (Str.ofString "max", 2), (Str.ofString "min", 2), (Str.ofString "aref", 2), (Str.ofString "aset", 3), (Str.ofString "list", 1), (Str.ofString "list", 2), (Str.ofString "list", 3), (Str.ofString "concat", 2), (Str.ofString "substring", 3), (Str.ofString "symbol-value", 1), (Str.ofString "set", 2), (Str.ofString "point", 0), (Str.ofString "goto-char", 1), (Str.ofString "insert", 1), (Str.ofString "char-after", 1)]
/-- the two names of a row's strings, as they stand in the head -/
noncomputable def tokOf (o : Option Obj) : Option (Tok × Tok) := match o with
  | some o => (match o.data with | .seq a _ => (match a.toList with | [.str _ t, .int _ t'] => some (t, t') | _ => none) | _ => none)
  | none => none
theorem rows_eq (P : Params) : (List.range 45).map (fun i => (kk.heap_1 P).lookup (122 + i)) = (List.range 45).map (fun i => rowTab[i]?.bind fun x => (tokOf ((kk.heap_1 P).lookup (122 + i))).map fun t => (⟨.type "tuple", none, .seq [Value.str x.1 t.1, .int x.2 t.2].toArray 0, #[]⟩ : Obj)) := by kernel_rfl
theorem rows_some (P : Params) : (List.range 45).all (fun i => (tokOf ((kk.heap_1 P).lookup (122 + i))).isSome) = true := by kernel_rfl
theorem rows_in (P : Params) : ∀ (i : Nat) (x : Str × Int), rowTab[i]? = some x → ∃ t t', (kk.heap_1 P).lookup (122 + i) = some ⟨.type "tuple", none, .seq [Value.str x.1 t, .int x.2 t'].toArray 0, #[]⟩ := by
  intro i x h
  have hi : i < 45 := (List.getElem?_eq_some_iff.mp h).1
  have e := congrArg (fun l => l[i]?) (rows_eq P)
  have q := List.all_eq_true.mp (rows_some P) i (List.mem_range.mpr hi)
  rw [List.getElem?_map, List.getElem?_map, List.getElem?_range hi, Option.map_some, Option.map_some, h, Option.bind_some] at e
  refine Classical.byContradiction fun hn9 => ?_
  obtain ⟨t, ht⟩ := Option.isSome_iff_exists.mp q
  (refine hn9 ?_; clear hn9)
  rw [ht] at e
  exact ⟨t.1, t.2, Option.some.inj e⟩
theorem rows_all (P : Params) : (kk.heap_1 P).lookup 167 = some ⟨.type "tuple", none, .seq ((List.range 45).map fun i => Value.ref (122 + i)).toArray 0, #[]⟩ := by
  k_is
local macro_rules | `(tactic| walk_at "exec For Tuple") => `(tactic| (with_reducible refine hold ?_))
local macro_rules | `(tactic| walk_at "exec For Tuple Call") => `(tactic| (with_reducible refine hold ?_))
local macro_rules | `(tactic| walk_at "call type:enumerate") => `(tactic| (with_reducible refine hold ?_))
local macro_rules | `(tactic| walk_at "Exists") => `(tactic| (with_reducible refine hold ?_))
local macro_rules | `(tactic| walk_at "compareOp Eq ref ref") => `(tactic| (with_reducible refine hold ?_))
section
variable {w : World} {s : Shared} {mg mb : Str → Option Value} {dp un : Nat} {fr : Option (List Env)} {gd : Option (List Code)} {R : Result → Shared → Prop}
theorem tab_ok : (rowTab.all fun x => PyData.canLay0 (.str x.1)) = true := by decide +kernel
theorem tab_shaped {i : Nat} {x : Str × Int} (h : rowTab[i]? = some x) : SeqAt.shaped (.tuple [.str x.1, .int x.2]) = true := by
  have h1 := List.all_eq_true.mp tab_ok x (List.mem_of_getElem? h)
  have e : (PyData.tuple [.str x.1, .int x.2]).depth = 1 := by simp [PyData.depth, PyData.depthAll]
  refine Bool.and_eq_true_iff.mpr ⟨?_, decide_eq_true (by omega)⟩
  simp only [PyData.canLay0, PyData.canLayAll0, Bool.and_true, Bool.true_and] at h1 ⊢
  exact h1
theorem tab_eqv {i k : Nat} {x : Str × Int} {nm : Str} {many : Int} (hx : rowTab[i]? = some x) (hk : rowTab[k]? = some (nm, many)) (hik : i ≤ k) (hno : ∀ i x, i < k → rowTab[i]? = some x → (x.1 == nm && decide (x.2 = many)) = false) :
    PyData.eqv (.tuple [.str x.1, .int x.2]) (.tuple [.str nm, .int many]) = decide (i = k) := by
  by_cases e : i = k
  · subst e
    rw [hk] at hx; cases hx
    simp [PyData.eqv, PyData.eqvAll]
  · have := hno i x (by omega) hx
    simp only [e, decide_false]
    simp [PyData.eqv, PyData.eqvAll] at this ⊢
    exact this
theorem index_ok {nm : Str} {many : Int} {t1 t2 : Tok} (k : Nat) (X : (kk.heap_1 w.params).In s.heap) (T : TopRead vw (looseW vw [Str.ofString "ROWS"]) mg mb s.heap) (hD : dp + 3 ≤ 400) (hU : un + 60 ≤ 5000) (hk : rowTab[k]? = some (nm, many)) (hno : ∀ i x, i < k → rowTab[i]? = some x → (x.1 == nm && decide (x.2 = many)) = false) (hR : SayInt s R k) : codeAny (model PySem.Challenge.rw_rg0136_01.row.toRowW.prog w) (Ar dp un fr gd) (.call (.ref 174) ⟨[.str nm t1, .int many t2], []⟩) R s := by
  have hkl : k < 45 := (List.getElem?_eq_some_iff.mp hk).1
  have hall := rows_all w.params
  have hin := rows_in w.params
  refine' enter (K := kk.heap_1 _) (binds := [(Str.ofString "name", .str nm t1), (Str.ofString "many", .int many t2)]) ?k3 ?k5 ?k6 ?k7 ?k8 ?k9 ?kB ?_ ?c2 ?c3 ?c4 ?c5; (case k3 => assumption); (case k5 => exact TopRead.nolimit (by k_asm)); (case k6 => k_is); (case k7 => k_is); (case k8 => ktr_room); (case k9 => exact BindsTo.of_eq rfl); (case c5 => decide); (case kB => exact locs rfl); (case c2 => exact rfl); (case c3 => exact rfl); (case c4 => exact rfl); intro L' h₁ F N; (try dsimp only); k_fold
  k_steps
  unfold Hold
  refine wpAny_For ?_ (by intro _; rfl)
  k_steps
  unfold Hold
  k_dflt (refine' enumT_call rfl rfl rfl rfl (items := (List.range 45).map fun i => Value.ref (122 + i)) ?F ?N ?hl (fun i m' => i ≤ k ∧ ∀ y, y ≠ Str.ofString "index" → y ≠ Str.ofString "row" → m' y = List.lookup y [(Str.ofString "name", Value.str nm t1), (Str.ofString "many", Value.int many t2)].reverse) ?h0 ?step ?done; (case F => k_asm); (case N => k_asm))
  case hl => exact fun h m F N => ⟨_, F.keep _ _ (X _ _ hall), rfl, _, rfl⟩
  case h0 => exact ⟨Nat.zero_le _, fun y _ _ => rfl⟩
  case done =>
    intro m' h
    have := h.1
    simp only [List.length_map, List.length_range] at this
    omega
  case step =>
    intro i v tk mX h3 tk3 e it oe oi hv hq11 F3 N3
    refine Classical.byContradiction fun hn9 => ?_
    obtain ⟨hik, hm2⟩ := hq11
    (refine hn9 ?_; clear hn9)
    have hi : i < 45 := by omega
    have hv2 : v = Value.ref (122 + i) := by simpa [hi] using hv.symm
    subst hv2
    refine Classical.byContradiction fun hn9 => ?_
    obtain ⟨x, hx⟩ : ∃ x, rowTab[i]? = some x := ⟨_, List.getElem?_eq_getElem (show i < rowTab.length from hi)⟩
    (refine hn9 ?_; clear hn9)
    refine Classical.byContradiction fun hn9 => ?_
    obtain ⟨u1, u2, hrow⟩ := hin i x hx
    (refine hn9 ?_; clear hn9)
    have em : mX = fun y => if y = Str.ofString "row" then mX (Str.ofString "row") else if y = Str.ofString "index" then mX (Str.ofString "index") else List.lookup y [(Str.ofString "name", Value.str nm t1), (Str.ofString "many", Value.int many t2)].reverse := by
      funext y9
      by_cases e90 : y9 = Str.ofString "row"
      · rw [if_pos e90, e90]
      by_cases e91 : y9 = Str.ofString "index"
      · rw [if_neg e90, if_pos e91, e91]
      rw [if_neg e90, if_neg e91]
      exact hm2 _ e91 e90
    clear hm2
    generalize mX (Str.ofString "row") = vr at em
    generalize mX (Str.ofString "index") = vi at em
    subst em
    k_steps
    unfold Hold
    refine eq_dataH (da := .tuple [.str x.1, .int x.2]) (db := .tuple [.str nm, .int many]) (reads_tuple_at ((X.keeps (Fr.keep (by k_asm))) _ _ hrow) rfl rfl (readsAll_cons_val (.str _ _) (readsAll_cons_val (.int _ _) .nil)))
      (reads_tuple_at (News.get (by k_asm) (by k_mem)) rfl rfl (readsAll_cons_val (.str _ _) (readsAll_cons_val (.int _ _) .nil))) (tab_shaped hx) (tab_shaped hk) (by ((try simp only [Ar, depth_deeper, units_deeper, recursionLimit, cLine] at *); omega)) ?_
    rw [tab_eqv hx hk hik hno]
    by_cases eik : i = k
    · subst eik
      rw [show decide (i = i) = true from decide_eq_true rfl]
      k_steps
      exact hR _ _ _ (Fr.keep (by k_asm))
    · rw [show decide (i = k) = false from decide_eq_false eik]
      k_steps
      unfold Hold
      refine (?_ : ∃ h' tk' m₂, _ = ({ s with heap := h', toks := tk' } : Shared) ∧ Fr s.heap L' h' m₂ ∧ News s.heap L' h' ((e, oe) :: (it, oi) :: []) ∧ i + 1 ≤ k ∧ ∀ y, y ≠ Str.ofString "index" → y ≠ Str.ofString "row" → m₂ y = List.lookup y [(Str.ofString "name", Value.str nm t1), (Str.ofString "many", Value.int many t2)].reverse)
      refine' ⟨_, _, ?m2, rfl, ?F, ?N, ?le, ?mm⟩
      case F => k_asm
      case N =>
        refine' news_sub (b := [(e, oe), (it, oi)]) ?NN ?hs
        case NN => k_asm
        case hs =>
          intro p hp
          simp only [List.mem_cons] at hp ⊢
          rcases hp with h | h | h <;> simp [h]
      case le => omega
      case mm => exact fun y a b => by simp only [if_neg a, if_neg b]
theorem index_cons {t1 t2 : Tok} (X : (kk.heap_1 w.params).In s.heap) (T : TopRead vw (looseW vw [Str.ofString "ROWS"]) mg mb s.heap) (hD : dp + 3 ≤ 400) (hU : un + 60 ≤ 5000) (hR : SayInt s R 2) : codeAny (model PySem.Challenge.rw_rg0136_01.row.toRowW.prog w) (Ar dp un fr gd) (.call (.ref 174) ⟨[.str (Str.ofString "cons") t1, .int 2 t2], []⟩) R s :=
  index_ok 2 X T hD hU rfl (fun i x hi hx => by rcases i with _ | _ | i <;> first | (cases hx; decide) | omega) hR
theorem index_eq {t1 t2 : Tok} (X : (kk.heap_1 w.params).In s.heap) (T : TopRead vw (looseW vw [Str.ofString "ROWS"]) mg mb s.heap) (hD : dp + 3 ≤ 400) (hU : un + 60 ≤ 5000) (hR : SayInt s R 5) : codeAny (model PySem.Challenge.rw_rg0136_01.row.toRowW.prog w) (Ar dp un fr gd) (.call (.ref 174) ⟨[.str (Str.ofString "eq") t1, .int 2 t2], []⟩) R s :=
  index_ok 5 X T hD hU rfl (fun i x hi hx => by rcases i with _ | _ | _ | _ | _ | i <;> first | (cases hx; decide) | omega) hR
theorem index_list {t1 t2 : Tok} (X : (kk.heap_1 w.params).In s.heap) (T : TopRead vw (looseW vw [Str.ofString "ROWS"]) mg mb s.heap) (hD : dp + 3 ≤ 400) (hU : un + 60 ≤ 5000) (hR : SayInt s R 36) : codeAny (model PySem.Challenge.rw_rg0136_01.row.toRowW.prog w) (Ar dp un fr gd) (.call (.ref 174) ⟨[.str (Str.ofString "list") t1, .int 3 t2], []⟩) R s :=
  index_ok 36 X T hD hU rfl (fun i x hi hx => by
    have h : ((rowTab.take 36).all fun x => !(x.1 == Str.ofString "list" && decide (x.2 = 3))) = true := by decide +kernel
    have := List.all_eq_true.mp h x (List.mem_of_getElem? (i := i) (by rw [List.getElem?_take_of_lt hi]; exact hx))
    simp only [Bool.not_eq_true'] at this
    exact this) hR
end
end Mine
end
local macro_rules | `(tactic| walk_at "el") => `(tactic| ((case e => walk_at "nl"); (case l => walk_at "nl")))
local macro_rules | `(tactic| walk_at "it") => `(tactic| (exact Mine.isTup_hs (by k_asm) (by k_asm) (by assumption) (by assumption) (by walk_at "st")))
local macro_rules | `(tactic| walk_at "xn") => `(tactic| ((case x => assumption); (case z => omega)))
local macro_rules | `(tactic| walk_at "XT") => `(tactic| ((case X => k_asm); (case T => k_asm)))
local macro_rules | `(tactic| walk_at "lt") => `(tactic| (exact Mine.isList_hs (by k_asm) (by k_asm) (by assumption) (by assumption) (by walk_at "st")))
section
open PySem PySem.W PyProof.Rows PySem.Calls
namespace Mine
local macro_rules | `(tactic| k_inst) => `(tactic| exact instAt_get (Fr.keep (by k_asm)) (by assumption) (by assumption))
local macro_rules | `(tactic| k_inst) => `(tactic| exact instAt_hs (by k_asm) (by k_asm) (by assumption) (by assumption) (by assumption) (by walk_at "st"))
local macro_rules | `(tactic| walk_at "call builtin:list.pop") => `(tactic| (tbr_iter (1, "list.pop"); k_dflt (refine' pop_L ?F ?N ?U ?z ?_; walk_at "FN"; (case U => k_upd); walk_at "zm"); walk_at "aN"))
local macro_rules | `(tactic| walk_at "compareOp NotEq ref ref") => `(tactic| (tbr_iter (3, CmpOp.NotEq); k_dflt (refine' neNilV ?l ?e ?u ?_; walk_at "el"; walk_at "u"; (first | rw [snoc_empty] | rw [nil_empty] | skip))))
local macro_rules | `(tactic| walk_at "call builtin:len") => `(tactic| (tbr_iter (1, "len"); k_dflt (refine' len_V ?l ?z ?_; (case l => first | walk_at "nl" | exact Fr.lst (by k_asm) (by assumption)); (case z => first | assumption | walk_at "ml"); intro t9 tk9)))
local macro_rules | `(tactic| walk_at "binaryOp Mult ref int") => `(tactic| (k_here; k_dflt (refine' mul_one ?F ?N ?l ?a ?b ?_; walk_at "FN"; (case l => k_mem); (case a => omega); (case b => omega); intro h' l' F' N' l1; (try k_lt l1))))
section
set_option maxRecDepth 100000
set_option maxHeartbeats 8000000
local macro_rules | `(tactic| walk_at "exec While Compare cons nil") => `(tactic| (with_reducible refine hold ?_))
local macro_rules | `(tactic| walk_at "call ref") => `(tactic| (with_reducible refine hold ?_))
local macro_rules | `(tactic| walk_at "call ref") => `(tactic| (tbr_iter (0, 287); k_dflt (refine' wpAny_call (standing_new ?X ?T ?D ?_); walk_at "XK"; walk_at "D"; intro h' tk' x' d' h1' h2' h3' k1' k2' k3' hk' hx' hd' eD' eX'; have kF' := Fr.keeps (by k_asm) hk'; have kN' := (news_two (by k_asm) (by k_asm) hk' hx' hd' eD' eX').1; have kl1 := (news_two (by k_asm) (by k_asm) hk' hx' hd' eD' eX').2.1; have kl2 := (news_two (by k_asm) (by k_asm) hk' hx' hd' eD' eX').2.2; clear hk' hx' hd' eD' eX'; (try k_lt kl1); (try dsimp only))))
local macro_rules | `(tactic| k_all) => `(tactic| first | assumption | exact allNe_of (by first | assumption | exact And.right (by assumption) | exact And.right (And.right (by assumption)) | exact And.right (And.right (And.right (by assumption)))))
local macro_rules | `(tactic| walk_at "assign Tuple") => `(tactic| (k_here; (with_reducible show wpAny _ _ (assign (Expr.Tuple _ _ _) _ (Value.ref _)) _ _ _); k_dflt (refine' unpackN_ ?k1 ?k2 ?k3 ?k4 ?k5 ?k6 ?_; (case k1 => k_asm); (case k2 => k_asm); (case k3 => first | assumption | walk_at "it"); (case k4 => exact rfl); (case k5 => exact rfl); (case k6 => exact rfl); k_whole; intro h' F' N'; (try k_sweep))))
local macro_rules | `(tactic| walk_at "subscriptTail Name Name ref int") => `(tactic| (k_here; k_dflt (refine' item_Ln ?l ?x ?z ?_; (case l => walk_at "nl"); walk_at "xn")))
local macro_rules | `(tactic| walk_at "subscriptTail Attribute Name Name ref int") => `(tactic| (k_here; k_dflt (refine' item_Ln ?l ?x ?z ?_; (case l => exact Fr.lst (by k_asm) (by assumption)); walk_at "xn")))
local macro_rules | `(tactic| walk_at "setItem ref int ref") => `(tactic| (k_here; k_dflt (refine' setItem_Vn ?F ?N ?U ?a ?z ?_; walk_at "FN"; (case U => k_upd); (case a => omega); (case z => omega); intro h' F' N')))
local macro_rules | `(tactic| walk_at "call builtin:list.extend") => `(tactic| (with_reducible refine hold ?_))
local macro_rules | `(tactic| walk_at "Exists") => `(tactic| (with_reducible refine hold ?_))
section
variable {w : World} {s : Shared} {mg mb : Str → Option Value} {dp un : Nat} {fr : Option (List Env)} {gd : Option (List Code)} {R : Result → Shared → Prop}
noncomputable def SInv (s₀ : Shared) (L f : Addr) (code : List Op) (T : Nat → St) (n : Nat) (s : Shared) : Prop :=
  ∃ h tk kl wl kn wn kvs wvs imm vp vs vf known ws, s = { s₀ with heap := h, toks := tk } ∧
    Fr s₀.heap L h (fun y => if y = Str.ofString "found" then vf else if y = Str.ofString "standing" then vs else if y = Str.ofString "place" then vp else if y = Str.ofString "waiting" then some (.ref wl) else if y = Str.ofString "known" then some (.ref kl) else List.lookup y [(Str.ofString "function", Value.ref f)].reverse) ∧
    News s₀.heap L h ((wl, listOf (List.toArray wvs) wn) :: (kl, listOf (List.toArray kvs) kn) :: imm) ∧ @Ne Nat wl kl ∧ (∀ p ∈ imm, p.1 ≠ wl) ∧ (∀ p ∈ imm, p.1 ≠ kl) ∧
    All2 (WayAt (Hs Em imm)) wvs ws ∧ All2 (KnownAt (Hs Em imm)) kvs known ∧ Work code T known ws n
theorem sinv_start {s₀ : Shared} {L f : Addr} {code : List Op} {TT : Nat → St} {h : Heap} {tk : Nat} {m : Str → Option Value} {wl t x d l1 kl l3 : Addr} {wn tn n1 n2 : Nat} {k1 k2 k3 t0 tv tb : Tok} {h1 h2 h3 : Int} {o3 : Obj} {k : Int} (W : WellMade code TT)
    (F : Fr s₀.heap L h m) (hm : ∀ y, m y = (if y = Str.ofString "found" then none else if y = Str.ofString "standing" then none else if y = Str.ofString "place" then none else if y = Str.ofString "waiting" then some (.ref wl) else if y = Str.ofString "known" then some (.ref kl) else List.lookup y [(Str.ofString "function", Value.ref f)].reverse))
    (N : News s₀.heap L h [(wl, listOf #[Value.ref t] wn), (t, tupObj [.int 0 t0, .ref x] tn), (x, instObj 287 d), (d, standDict h1 h2 h3 k1 k2 k3 tv tb 0 0 l1), (l1, listOf #[] n1), (kl, listOf (List.toArray (List.replicate k.toNat Value.none)) n2), (l3, o3)])
    (hk : k = code.length) (ne : (@Ne Nat wl kl ∧ @Ne Nat t wl ∧ @Ne Nat x wl ∧ @Ne Nat d wl ∧ @Ne Nat l1 wl ∧ @Ne Nat l3 wl) ∧ (@Ne Nat t kl ∧ @Ne Nat x kl ∧ @Ne Nat d kl ∧ @Ne Nat l1 kl ∧ @Ne Nat l3 kl)) :
    SInv s₀ L f code TT (3 * code.length + 1) { s₀ with heap := h, toks := tk } := by
  subst hk
  refine Classical.byContradiction fun hn9 => ?_
  obtain ⟨⟨a1, a2, a3, a4, a5, a6⟩, b2, b3, b4, b5, b6⟩ := ne
  (refine hn9 ?_; clear hn9)
  refine ⟨h, tk, kl, wl, n2, wn, List.replicate (code.length : Int).toNat Value.none, [.ref t], [(t, tupObj [.int 0 t0, .ref x] tn), (x, instObj 287 d), (d, standDict h1 h2 h3 k1 k2 k3 tv tb 0 0 l1), (l1, listOf #[] n1), (l3, o3)], none, none, none, List.replicate code.length none, [(0, ⟨0, 0, []⟩)], rfl, fr_eq F hm, news_sub N ?_, a1, ?_, ?_, .cons ⟨t, t0, x, rfl, ⟨_, .inr (by k_mem)⟩, d, l1, h1, h2, h3, k1, k2, k3, tv, tb, .inr (by k_mem), .inr (by k_mem), [], ⟨_, .inr (by k_mem)⟩, .nil⟩ .nil, ?_, work_start W⟩
  · exact List.forall_mem_cons.mpr ⟨.head _, fun p hp => .tail _ ((List.perm_middle (l₁ := [(t, tupObj [.int 0 t0, .ref x] tn), (x, instObj 287 d), (d, standDict h1 h2 h3 k1 k2 k3 tv tb 0 0 l1), (l1, listOf #[] n1)])).mem_iff.mpr hp)⟩
  · exact List.forall_mem_cons.mpr ⟨a2, List.forall_mem_cons.mpr ⟨a3, List.forall_mem_cons.mpr ⟨a4, List.forall_mem_cons.mpr ⟨a5, List.forall_mem_cons.mpr ⟨a6, fun _ h => nomatch h⟩⟩⟩⟩⟩
  · exact List.forall_mem_cons.mpr ⟨b2, List.forall_mem_cons.mpr ⟨b3, List.forall_mem_cons.mpr ⟨b4, List.forall_mem_cons.mpr ⟨b5, List.forall_mem_cons.mpr ⟨b6, fun _ h => nomatch h⟩⟩⟩⟩⟩
  · rw [Int.toNat_natCast]
    generalize code.length = c
    induction c with
    | zero => exact .nil
    | succ c ih => rw [List.replicate_succ, List.replicate_succ]; exact .cons rfl ih
theorem standings_ok {f cl kl : Addr} {dep : Int} {cn : Nat} {cvs : List Value} {code : List Op} {TT : Nat → St} (X : (kk.heap_1 w.params).In s.heap) (T : TopRead vw (looseW vw [Str.ofString "ROWS"]) mg mb s.heap) (hD : dp + 8 ≤ 400) (hU : un + 100 ≤ 5000)
    (hf : OwnAt s.heap f cl kl dep) (hc : s.heap.get? cl = some (lstObj cvs cn)) (hcode : All2 (InstrAt (hSt s.heap)) cvs code) (W : WellMade code TT)
    (hR : ∀ h' tk r, s.heap.StaysIn h' → StandsAt (Ext Em s.heap h') r ((List.range code.length).map TT) → R (.ok (.ret (.ref r))) { s with heap := h', toks := tk }) : codeAny (model PySem.Challenge.rw_rg0136_01.row.toRowW.prog w) (Ar dp un fr gd) (.call (.ref 326) ⟨[.ref f], []⟩) R s := by
  have hem : Sub Em (hSt s.heap) := fun _ _ e => e.elim
  have hlen := W.small
  have hne := W.pos
  have hcl : cvs.length ≤ 1000 := by rw [hcode.length]; omega
  have hcL : s.heap.IsList cl cvs.toArray := ⟨_, hc, rfl, _, rfl⟩
  refine Classical.byContradiction fun hn9 => ?_
  obtain ⟨d, h1, h2, h3, h4, h5, h6, k1, k2, k3, k4, k5, k6, tt, td, hf1, hf2⟩ := hf
  (refine hn9 ?_; clear hn9)
  refine' enter (K := kk.heap_1 _) (binds := [(Str.ofString "function", .ref f)]) ?k3 ?k5 ?k6 ?k7 ?k8 ?k9 ?kB ?_ ?c2 ?c3 ?c4 ?c5; (case k3 => assumption); (case k5 => exact TopRead.nolimit (by k_asm)); (case k6 => k_is); (case k7 => k_is); (case k8 => ktr_room); (case k9 => exact BindsTo.of_eq rfl); (case c5 => decide); (case kB => exact locs rfl); (case c2 => exact rfl); (case c3 => exact rfl); (case c4 => exact rfl); intro L' h₁ F N; (try dsimp only); k_fold
  k_steps
  unfold Hold
  refine wpAny_While (codeAny_whileLoop (SInv s L' f code TT) ?_ (3 * code.length + 1) ?_)
  · intro n s1 hq2
    refine Classical.byContradiction fun hn9 => ?_
    obtain ⟨h, tk, kl, wl, kn, wn, kvs, wvs, imm, vp, vs, vf, known, ws, rfl, F, N, n1, n2, n3, hw, hk, K⟩ := hq2
    (refine hn9 ?_; clear hn9)
    have hwz : wvs.length ≤ 100000 := by rw [hw.length]; have := K.few; omega
    have hkl : kvs.length = code.length := by rw [hk.length, K.len]
    rcases hw.last with ⟨rfl, rfl⟩ | ⟨p, y, q, x, rfl, rfl, hp, hy⟩
    · have hk := work_done W K ▸ hk
      k_steps
      exact hR _ _ _ (Fr.keep (by k_asm)) ⟨kl, ⟨_, News.ext (by k_asm) (by k_mem)⟩, kvs, ⟨_, News.ext (by k_asm) (by k_mem)⟩, all2_map' (All2.mono (all2_map hk) fun _ _ ⟨c, e, q⟩ => ⟨c, e, q.mono (hs_ext (by k_asm) (by (intro p9 hp9; repeat (first | assumption | refine List.mem_cons_of_mem _ ?_))))⟩)⟩
    · refine Classical.byContradiction fun hn9 => ?_
      obtain ⟨i, hi1, hi2, hi3⟩ := K.wait x (List.mem_append_right _ (List.mem_singleton_self _))
      (refine hn9 ?_; clear hn9)
      refine Classical.byContradiction fun hn9 => ?_
      obtain ⟨x1, x2⟩ := x
      (refine hn9 ?_; clear hn9)
      refine Classical.byContradiction fun hn9 => ?_
      obtain ⟨t, kt, c, rfl, ht, hcs⟩ := hy
      (refine hn9 ?_; clear hn9)
      dsimp only at hi1 hi3 ht hcs
      subst hi1 hi3
      refine Classical.byContradiction fun hn9 => ?_
      obtain ⟨ow, how⟩ : ∃ o, code[i]? = some o := ⟨_, List.getElem?_eq_getElem hi2⟩
      (refine hn9 ?_; clear hn9)
      refine Classical.byContradiction fun hn9 => ?_
      obtain ⟨iv, hiv, hin⟩ := hcode.get how
      (refine hn9 ?_; clear hn9)
      refine Classical.byContradiction fun hn9 => ?_
      obtain ⟨kv, hkv⟩ : ∃ o, known[i]? = some o := ⟨_, List.getElem?_eq_getElem (by rw [K.len]; exact hi2)⟩
      (refine hn9 ?_; clear hn9)
      refine Classical.byContradiction fun hn9 => ?_
      obtain ⟨uv, huv, hun⟩ := hk.get hkv
      (refine hn9 ?_; clear hn9)
      have hiL : (i : Int) < code.length := by omega
      have hohs := (W.ok _ _ how).size
      have hok := W.ok _ _ how
      have hsz := W.size _ _ how
      have hret : ow = .ret → ow.step (TT i) = ⟨0, 0, []⟩ := fun e => by subst e; exact W.ret _ how
      cases kv with
      | some st0 =>
        refine Classical.byContradiction fun hn9 => ?_
        obtain ⟨c0, rfl, hc0⟩ := hun
        (refine hn9 ?_; clear hn9)
        have e0 := K.right _ _ hkv
        subst e0
        refine Classical.byContradiction fun hn9 => ?_
        obtain ⟨m, hm, K2⟩ := work_known K rfl hkv
        (refine hn9 ?_; clear hn9)
        refine Classical.byContradiction fun hn9 => ?_
        obtain ⟨d', l', q1, q2, q3, r1, r2, r3, rv, rb, hb1, hb2, hb3⟩ := id hc0
        (refine hn9 ?_; clear hn9)
        k_steps
        unfold Hold
        k_dflt (refine' call_told ?F ?N ?S ?X ?T ?D ?a ?m ?o ?_; (case F => k_asm); (case N => k_asm); (case S => assumption); (case X => k_asm); (case T => k_asm); (case D => ((try simp only [Ar, depth_deeper, units_deeper, recursionLimit, cLine] at *); omega)); (case a => assumption); (case m => (intro p9 hp9; repeat (first | assumption | refine List.mem_cons_of_mem _ ?_))); (case o => assumption))
        intro h2' tk2' v2 new2 hk2 F2 nn2 hf2 ht2
        have N2 : News s.heap L' h2' ((wl, listOf p.toArray (wn + 1)) :: (kl, listOf kvs.toArray kn) :: (new2 ++ imm)) := news_step (News.grown (by k_asm) hk2) nn2 (by k_mem) (by k_mem) (by (intro p9 hp9; repeat (first | assumption | refine List.mem_cons_of_mem _ ?_)))
        have m2 := off_new hf2 (News.get (by k_asm) (by k_mem)) n2
        have m3 := off_new hf2 (News.get (by k_asm) (by k_mem)) n3
        have hcs := hcs.mono (hs_right (new := new2))
        have hk := hk.mono fun _ _ q => q.mono (hs_right (new := new2))
        have hp := hp.mono fun _ _ q => q.mono (hs_right (new := new2))
        clear hf2 hk2 nn2
        generalize new2 ++ imm = imm2 at *
        refine Classical.byContradiction fun hn9 => ?_
        obtain ⟨d', l', q1, q2, q3, r1, r2, r3, rv, rb, hb1, hb2, hb3⟩ := id hcs
        (refine hn9 ?_; clear hn9)
        (try dsimp only)
        k_steps
        unfold Hold
        k_dflt (refine' call_told ?F ?N ?S ?X ?T ?D ?a ?m ?o ?_; (case F => k_asm); (case N => k_asm); (case S => assumption); (case X => k_asm); (case T => k_asm); (case D => ((try simp only [Ar, depth_deeper, units_deeper, recursionLimit, cLine] at *); omega)); (case a => assumption); (case m => (intro p9 hp9; repeat (first | assumption | refine List.mem_cons_of_mem _ ?_))); (case o => assumption))
        intro h2' tk2' v3 new2 hk2 F2 nn2 hf2 ht3
        have N2 : News s.heap L' h2' ((wl, listOf p.toArray (wn + 1)) :: (kl, listOf kvs.toArray kn) :: (new2 ++ imm2)) := news_step (News.grown (by k_asm) hk2) nn2 (by k_mem) (by k_mem) (by (intro p9 hp9; repeat (first | assumption | refine List.mem_cons_of_mem _ ?_)))
        have m2 := off_new hf2 (News.get (by k_asm) (by k_mem)) m2
        have m3 := off_new hf2 (News.get (by k_asm) (by k_mem)) m3
        have ht2 := ht2.mono (hs_right (new := new2))
        have hk := hk.mono fun _ _ q => q.mono (hs_right (new := new2))
        have hp := hp.mono fun _ _ q => q.mono (hs_right (new := new2))
        clear hf2 hk2 nn2
        generalize new2 ++ imm2 = imm3 at *
        (try dsimp only)
        k_steps
        refine ne_dataH (told_reads (ht2.mono (hs_sub (by k_asm) (by k_asm) hem (by (intro p9 hp9; repeat (first | assumption | refine List.mem_cons_of_mem _ ?_)))))) (told_reads (ht3.mono (hs_sub (by k_asm) (by k_asm) hem (by (intro p9 hp9; repeat (first | assumption | refine List.mem_cons_of_mem _ ?_)))))) (told_shaped _) (told_shaped _) (by ((try simp only [Ar, depth_deeper, units_deeper, recursionLimit, cLine] at *); omega)) ?_
        rw [told_eqv]
        k_steps
        exact (⟨m, hm, _, _, kl, wl, kn, _, kvs, p, imm3, some (.int i kt), some (.ref c), vf, known, q, rfl, fr_eq (by k_asm) (by (intro y9; by_cases e91 : y9 = Str.ofString "found"; (subst e91; rfl); by_cases e92 : y9 = Str.ofString "standing"; (subst e92; rfl); by_cases e93 : y9 = Str.ofString "place"; (subst e93; rfl); simp only [if_neg e91, if_neg e92, if_neg e93])), (by k_asm), n1, m2, m3, hp, hk, K2⟩ : ∃ m, m < n ∧ SInv s L' f code TT m _)
      | none =>
        have hun : uv = Value.none := hun
        subst hun
        refine Classical.byContradiction fun hn9 => ?_
        obtain ⟨m, hm, K2⟩ := work_new W K rfl how hkv
        (refine hn9 ?_; clear hn9)
        refine Classical.byContradiction fun hn9 => ?_
        obtain ⟨ia, it1, it2, rfl, hit⟩ := hin
        (refine hn9 ?_; clear hn9)
        have hitT := hit.isTup
        k_steps
        unfold Hold
        k_dflt (refine' call_ways ow ?F ?N ?S ?X ?T ?D ?U ?i ?a ?m ?o ?z ?r ?_; (case F => k_asm); (case N => k_asm); (case S => assumption); (case X => k_asm); (case T => k_asm); (case D => ((try simp only [Ar, depth_deeper, units_deeper, recursionLimit, cLine] at *); omega)); (case U => ((try simp only [Ar, depth_deeper, units_deeper, recursionLimit, cLine] at *); omega)); (case i => first | assumption | exact Fr.tup (by k_asm) (by assumption)); (case a => assumption); (case m => (intro p9 hp9; repeat (first | assumption | refine List.mem_cons_of_mem _ ?_))); (case o => assumption); (case z => assumption); (case r => assumption))
        intro h2' tk2' b2 new2 hk2 F2 nn2 hf2 hw2
        have N2 : News s.heap L' h2' ((wl, listOf p.toArray (wn + 1)) :: (kl, listOf (kvs.set i (.ref c)).toArray kn) :: (new2 ++ imm)) := news_step (News.grown (by k_asm) hk2) nn2 (by k_mem) (by k_mem) (by (intro p9 hp9; repeat (first | assumption | refine List.mem_cons_of_mem _ ?_)))
        have m2 := off_new hf2 (News.get (by k_asm) (by k_mem)) n2
        have m3 := off_new hf2 (News.get (by k_asm) (by k_mem)) n3
        have hcs := hcs.mono (hs_right (new := new2))
        have hk := hk.mono fun _ _ q => q.mono (hs_right (new := new2))
        have hp := hp.mono fun _ _ q => q.mono (hs_right (new := new2))
        clear hf2 hk2 nn2
        generalize new2 ++ imm = imm2 at *
        refine Classical.byContradiction fun hn9 => ?_
        obtain ⟨wvs2, ⟨wn2, hwl⟩, hww⟩ := hw2
        (refine hn9 ?_; clear hn9)
        have hz2 : p.length + wvs2.length ≤ 100000 := by
          have a1 := hww.length
          have a2 := ways_two ow i (TT i)
          have a3 := K2.few
          have a4 := hp.length
          rw [List.length_append] at a3
          omega
        (try dsimp only)
        k_steps
        unfold Hold
        k_dflt (refine' extend_V ?F ?N ?b (fun n' => (wl, listOf (p ++ wvs2).toArray n') :: (kl, listOf (kvs.set i (.ref c)).toArray kn) :: imm2) ?U ?z ?_; (case F => k_asm); (case N => k_asm); (case b => exact hs_sub (by k_asm) (by k_asm) hem (by (intro p9 hp9; repeat (first | assumption | refine List.mem_cons_of_mem _ ?_))) _ _ hwl); (case U => intro n'; k_upd); (case z => exact hz2))
        intro h3 n3 F3 N3
        (try dsimp only)
        k_steps
        exact (⟨m, hm, _, _, kl, wl, kn, n3, _, _, imm2, some (.int i kt), some (.ref c), some (.ref b2), _, _, rfl, fr_eq (by k_asm) (by (intro y9; by_cases e91 : y9 = Str.ofString "found"; (subst e91; rfl); by_cases e92 : y9 = Str.ofString "standing"; (subst e92; rfl); by_cases e93 : y9 = Str.ofString "place"; (subst e93; rfl); simp only [if_neg e91, if_neg e92, if_neg e93])), (by k_asm), n1, m2, m3, hp.append hww, hk.set (knownAt_some hcs) i, K2⟩ : ∃ m, m < n ∧ SInv s L' f code TT m _)
  · exact sinv_start W (by k_asm) (by (intro y9; by_cases e91 : y9 = Str.ofString "found"; (subst e91; rfl); by_cases e92 : y9 = Str.ofString "standing"; (subst e92; rfl); by_cases e93 : y9 = Str.ofString "place"; (subst e93; rfl); simp only [if_neg e91, if_neg e92, if_neg e93]); rfl) (by k_asm) (by rw [hcode.length]) (by omega)
end
end
section
set_option maxRecDepth 100000
set_option maxHeartbeats 8000000
section
variable {w : World} {s : Shared} {mg mb : Str → Option Value} {dp un : Nat} {fr : Option (List Env)} {gd : Option (List Code)} {R : Result → Shared → Prop}
/-- the code object with its lists -/
noncomputable def CodeAt (h : Heap) (f : Addr) (code : List Op) (dep : Int) : Prop := ∃ cl kl cn kn cvs c1 c2, OwnAt h f cl kl dep ∧ h.get? cl = some (lstObj cvs cn) ∧ All2 (InstrAt (hSt h)) cvs code ∧ h.get? kl = some (lstObj [.int 1 c1, .int 2 c2] kn)
theorem CodeAt.keeps {h h' : Heap} {f : Addr} {code : List Op} {dep : Int} (c : CodeAt h f code dep) (k : h.StaysIn h') : CodeAt h' f code dep := by
  refine Classical.byContradiction fun hn9 => ?_
  obtain ⟨cl, kl, cn, kn, cvs, c1, c2, ⟨d, h1, h2, h3, h4, h5, h6, k1, k2, k3, k4, k5, k6, tt, td, a, b⟩, e, q, r⟩ := c
  (refine hn9 ?_; clear hn9)
  exact ⟨cl, kl, cn, kn, cvs, c1, c2, ⟨d, h1, h2, h3, h4, h5, h6, k1, k2, k3, k4, k5, k6, tt, td, k _ _ a, k _ _ b⟩, k _ _ e, q.mono fun _ _ x => x.mono (hSt_sub k), k _ _ r⟩
theorem call_standings {h₀ : Heap} {L : Addr} {m : Str → Option Value} {news : List (Addr × Obj)} {E : Value → Shared → Prop} {Q : Value → Shared → Prop} {f : Addr} {code : List Op} {TT : Nat → St} {dep : Int} (F : Fr h₀ L s.heap m) (N : News h₀ L s.heap news) (X : (kk.heap_1 w.params).In h₀) (T : TopRead vw (looseW vw [Str.ofString "ROWS"]) mg mb h₀) (hD : dp + 8 ≤ 400) (hU : un + 100 ≤ 5000)
    (hc : CodeAt h₀ f code dep) (W : WellMade code TT)
    (hR : ∀ h' tk r new, s.heap.StaysIn h' → Fr h₀ L h' m → News h₀ L h' new → (∀ p ∈ new, s.heap.get? p.1 = none) → StandsAt (Hs Em new) r ((List.range code.length).map TT) → Q (.ref r) { s with heap := h', toks := tk }) :
    wpAny (model PySem.Challenge.rw_rg0136_01.row.toRowW.prog w) (Ar dp un fr gd) (call (.ref 326) [.ref f]) Q E s := by
  refine Classical.byContradiction fun hn9 => ?_
  obtain ⟨cl, kl, cn, kn, cvs, c1, c2, hf, hcl, hcode, hkl⟩ := hc.keeps F.keep
  (refine hn9 ?_; clear hn9)
  refine wpAny_call (standings_ok (X.keeps F.keep) (T.keeps F.keep) hD hU hf hcl hcode W fun h' tk r hk hr => ?_)
  refine Classical.byContradiction fun hn9 => ?_
  obtain ⟨new, n1, n2, n3⟩ := grown (σ := Em) (imm := []) F hk
  (refine hn9 ?_; clear hn9)
  rw [List.append_nil] at n3
  exact hR h' tk r new hk (F.keeps hk) n1 n2 (hr.mono fun a o e => n3 a o (e.elim (fun q => q.elim) .inr))
noncomputable def gdTo (code : List Op) (T : Nat → St) : Nat → Int
  | 0 => 0
  | i + 1 => match code[i]? with
    | some o => max (max (gdTo code T i) (T i).v) (o.step (T i)).v
    | none => gdTo code T i
theorem gd_step {code : List Op} {TT : Nat → St} {i : Nat} {o : Op} (how : code[i]? = some o) : max (max (gdTo code TT i) (TT i).v) (o.step (TT i)).v = gdTo code TT (i + 1) := by
  simp only [gdTo, how]
end
local macro_rules | `(tactic| walk_at "exec For Tuple") => `(tactic| (with_reducible refine hold ?_))
local macro_rules | `(tactic| walk_at "exec For Tuple Call") => `(tactic| (with_reducible refine hold ?_))
local macro_rules | `(tactic| walk_at "call type:enumerate") => `(tactic| (with_reducible refine hold ?_))
local macro_rules | `(tactic| walk_at "call ref") => `(tactic| (with_reducible refine hold ?_))
local macro_rules | `(tactic| walk_at "Exists") => `(tactic| (with_reducible refine hold ?_))
local macro_rules | `(tactic| walk_at "call ref") => `(tactic| (tbr_iter (0, 287); k_dflt (refine' wpAny_call (standing_new ?X ?T ?D ?_); walk_at "XK"; walk_at "D"; intro h' tk' x' d' h1' h2' h3' k1' k2' k3' hk' hx' hd' eD' eX'; have kF' := Fr.keeps (by k_asm) hk'; have kN' := (news_two (by k_asm) (by k_asm) hk' hx' hd' eD' eX').1; have kl1 := (news_two (by k_asm) (by k_asm) hk' hx' hd' eD' eX').2.1; have kl2 := (news_two (by k_asm) (by k_asm) hk' hx' hd' eD' eX').2.2; clear hk' hx' hd' eD' eX'; (try k_lt kl1); (try dsimp only))))
local macro_rules | `(tactic| k_all) => `(tactic| first | assumption | exact allNe_of (by first | assumption | exact And.right (by assumption) | exact And.right (And.right (by assumption)) | exact And.right (And.right (And.right (by assumption)))))
local macro_rules | `(tactic| walk_at "assign Tuple") => `(tactic| (k_here; (with_reducible show wpAny _ _ (assign (Expr.Tuple _ _ _) _ (Value.ref _)) _ _ _); k_dflt (refine' unpackN_ ?k1 ?k2 ?k3 ?k4 ?k5 ?k6 ?_; (case k1 => k_asm); (case k2 => k_asm); (case k3 => first | assumption | walk_at "it"); (case k4 => exact rfl); (case k5 => exact rfl); (case k6 => exact rfl); k_whole; intro h' F' N'; (try k_sweep))))
local macro_rules | `(tactic| walk_at "subscriptTail Name Name ref int") => `(tactic| (k_here; k_dflt (refine' item_Ln ?l ?x ?z ?_; (case l => walk_at "nl"); walk_at "xn")))
local macro_rules | `(tactic| walk_at "subscriptTail Attribute Name Name ref int") => `(tactic| (k_here; k_dflt (refine' item_Ln ?l ?x ?z ?_; (case l => exact Fr.lst (by k_asm) (by assumption)); walk_at "xn")))
local macro_rules | `(tactic| walk_at "setItem ref int ref") => `(tactic| (k_here; k_dflt (refine' setItem_Vn ?F ?N ?U ?a ?z ?_; walk_at "FN"; (case U => k_upd); (case a => omega); (case z => omega); intro h' F' N')))
local macro_rules | `(tactic| walk_at "subscriptTail Call") => `(tactic| (k_here; k_dflt (refine' item_T ?t ?a ?b ?c ?d ?_; (case t => walk_at "it"); walk_at "cd")))
local macro_rules | `(tactic| walk_at "call builtin:max") => `(tactic| (k_here; (with_reducible show wpAny _ _ (call (Value.builtin "max") [Value.int _ _, Value.int _ _, Value.int _ _]) _ _ _); k_dflt (refine' max3_V ?h ?F ?N ?_; (case h => rfl); walk_at "FN"; intro h' tk' t' F' N')))
local macro_rules | `(tactic| walk_at "call builtin:max") => `(tactic| (k_here; (with_reducible show wpAny _ _ (call (Value.builtin "max") [Value.int _ _, Value.int _ _]) _ _ _); k_dflt (refine' max2_V ?h ?F ?N ?_; (case h => rfl); walk_at "FN"; intro h' tk' t' F' N')))
section
variable {w : World} {s : Shared} {mg mb : Str → Option Value} {dp un : Nat} {fr : Option (List Env)} {gd : Option (List Code)} {R : Result → Shared → Prop}
theorem depth_ok {f : Addr} {dep : Int} {code : List Op} {TT : Nat → St} (X : (kk.heap_1 w.params).In s.heap) (T : TopRead vw (looseW vw [Str.ofString "ROWS"]) mg mb s.heap) (hD : dp + 10 ≤ 400) (hU : un + 120 ≤ 5000)
    (hc : CodeAt s.heap f code dep) (W : WellMade code TT) (hR : SayInt s R (gdTo code TT code.length)) : codeAny (model PySem.Challenge.rw_rg0136_01.row.toRowW.prog w) (Ar dp un fr gd) (.call (.ref 333) ⟨[.ref f], []⟩) R s := by
  have hem : Sub Em (hSt s.heap) := fun _ _ e => e.elim
  have hlen := W.small
  refine Classical.byContradiction fun hn9 => ?_
  obtain ⟨cl, kl, cn, kn, cvs, c1, c2, ⟨d, h1, h2, h3, h4, h5, h6, k1, k2, k3, k4, k5, k6, tt, td, hf1, hf2⟩, hcl, hcode, hkl⟩ := id hc
  (refine hn9 ?_; clear hn9)
  have hcL : s.heap.IsList cl cvs.toArray := ⟨_, hcl, rfl, _, rfl⟩
  refine' enter (K := kk.heap_1 _) (binds := [(Str.ofString "function", .ref f)]) ?k3 ?k5 ?k6 ?k7 ?k8 ?k9 ?kB ?_ ?c2 ?c3 ?c4 ?c5; (case k3 => assumption); (case k5 => exact TopRead.nolimit (by k_asm)); (case k6 => k_is); (case k7 => k_is); (case k8 => ktr_room); (case k9 => exact BindsTo.of_eq rfl); (case c5 => decide); (case kB => exact locs rfl); (case c2 => exact rfl); (case c3 => exact rfl); (case c4 => exact rfl); intro L' h₁ F N; (try dsimp only); k_fold
  k_steps
  unfold Hold
  refine wpAny_For ?_ (by intro _; rfl)
  k_steps
  unfold Hold
  k_dflt (refine' call_standings ?F ?N ?X ?T ?D ?U ?c ?W ?_; (case F => k_asm); (case N => k_asm); (case X => k_asm); (case T => k_asm); (case D => ((try simp only [Ar, depth_deeper, units_deeper, recursionLimit, cLine] at *); omega)); (case U => ((try simp only [Ar, depth_deeper, units_deeper, recursionLimit, cLine] at *); omega)); (case c => assumption); (case W => assumption))
  intro h2' tk2' r imm hk2 F2 N2 hf2 hr
  refine Classical.byContradiction fun hn9 => ?_
  obtain ⟨fl, htr, kvs, ⟨fn, hfl⟩, hkvs⟩ := hr
  (refine hn9 ?_; clear hn9)
  clear hk2 hf2
  (try dsimp only)
  k_steps
  unfold Hold
  k_dflt (refine' enum_call rfl rfl rfl rfl ?F ?N ?hl (fun i m' => (∃ tk, m' (Str.ofString "found") = some (.int (gdTo code TT i) tk)) ∧ ∀ y, y ≠ Str.ofString "found" → y ≠ Str.ofString "later" → y ≠ Str.ofString "standing" → y ≠ Str.ofString "place" → m' y = List.lookup y [(Str.ofString "function", Value.ref f)].reverse) ?h0 ?step ?done; (case F => k_asm); (case N => k_asm))
  case hl => exact fun h m F N => ⟨_, hs_sub F N hem (fun _ h => h) _ _ hfl, rfl, _, rfl⟩
  case h0 => exact ⟨⟨_, rfl⟩, fun y a _ _ _ => by simp only [if_neg a]⟩
  case step =>
    intro i v tk mX h tk' e it oe oi hv hq11 F3 N3
    refine Classical.byContradiction fun hn9 => ?_
    obtain ⟨⟨tk1, hm1⟩, hm2⟩ := hq11
    (refine hn9 ?_; clear hn9)
    refine Classical.byContradiction fun hn9 => ?_
    obtain ⟨st9, hst9, c, rfl, hcs⟩ := hkvs.get2 hv
    (refine hn9 ?_; clear hn9)
    have hi : i < code.length := by
      have := (List.getElem?_eq_some_iff.mp hst9).1
      simpa using this
    have hst : st9 = TT i := by simpa [hi] using hst9.symm
    subst hst
    have em : mX = fun y => if y = Str.ofString "later" then mX (Str.ofString "later") else if y = Str.ofString "standing" then mX (Str.ofString "standing") else if y = Str.ofString "place" then mX (Str.ofString "place") else if y = Str.ofString "found" then some (.int (gdTo code TT i) tk1) else List.lookup y [(Str.ofString "function", Value.ref f)].reverse := by
      funext y9
      by_cases e90 : y9 = Str.ofString "later"
      · rw [if_pos e90, e90]
      by_cases e91 : y9 = Str.ofString "standing"
      · rw [if_neg e90, if_pos e91, e91]
      by_cases e92 : y9 = Str.ofString "place"
      · rw [if_neg e90, if_neg e91, if_pos e92, e92]
      by_cases e93 : y9 = Str.ofString "found"
      · rw [if_neg e90, if_neg e91, if_neg e92, if_pos e93, e93, hm1]
      rw [if_neg e90, if_neg e91, if_neg e92, if_neg e93]
      exact hm2 _ e93 e90 e91 e92
    clear hm1 hm2
    generalize mX (Str.ofString "later") = vl at em
    generalize mX (Str.ofString "standing") = vs at em
    generalize mX (Str.ofString "place") = vp at em
    subst em
    refine Classical.byContradiction fun hn9 => ?_
    obtain ⟨ow, how⟩ : ∃ o, code[i]? = some o := ⟨_, List.getElem?_eq_getElem hi⟩
    (refine hn9 ?_; clear hn9)
    refine Classical.byContradiction fun hn9 => ?_
    obtain ⟨iv, hiv, hin⟩ := hcode.get how
    (refine hn9 ?_; clear hn9)
    refine Classical.byContradiction fun hn9 => ?_
    obtain ⟨ia, it1, it2, rfl, hit⟩ := hin
    (refine hn9 ?_; clear hn9)
    have hitT := hit.isTup
    have hok := W.ok _ _ how
    k_steps
    unfold Hold
    k_dflt (refine' call_after ow ?F ?N ?S ?X ?T ?D ?U ?i ?a ?m ?o ?_; (case F => k_asm); (case N => k_asm); (case S => assumption); (case X => k_asm); (case T => k_asm); (case D => ((try simp only [Ar, depth_deeper, units_deeper, recursionLimit, cLine] at *); omega)); (case U => ((try simp only [Ar, depth_deeper, units_deeper, recursionLimit, cLine] at *); omega)); (case i => first | assumption | exact Fr.tup (by k_asm) (by assumption)); (case a => assumption); (case m => (intro p9 hp9; repeat (first | assumption | refine List.mem_cons_of_mem _ ?_))); (case o => assumption))
    intro h2' tk2' b2 new2 hk2 F4 n4 hf4 ha4
    have N4 : News s.heap L' h2' ((e, oe) :: (it, oi) :: (new2 ++ imm)) := news_step (News.grown (by k_asm) hk2) n4 (by k_mem) (by k_mem) (by (intro p9 hp9; repeat (first | assumption | refine List.mem_cons_of_mem _ ?_)))
    have hsub : ∀ p ∈ imm, p ∈ new2 ++ imm := fun p hp => List.mem_append_right _ hp
    have hcs := hcs.mono (hs_right (new := new2))
    clear hf4 hk2 n4
    generalize new2 ++ imm = imm2 at *
    refine Classical.byContradiction fun hn9 => ?_
    obtain ⟨d', l', q1, q2, q3, r1, r2, r3, rv, rb, hb1, hb2, hb3⟩ := ha4
    (refine hn9 ?_; clear hn9)
    refine Classical.byContradiction fun hn9 => ?_
    obtain ⟨d'', l'', q1', q2', q3', r1', r2', r3', rv', rb', hc1, hc2, hc3⟩ := hcs
    (refine hn9 ?_; clear hn9)
    (try dsimp only)
    k_steps
    unfold Hold
    exact (⟨_, _, _, rfl, (by k_asm), news_sub (by k_asm : News s.heap L' _ ((e, oe) :: (it, oi) :: imm2)) (fun p hp => by
      rcases List.mem_cons.mp hp with rfl | hp
      · exact .head _
      · rcases List.mem_cons.mp hp with rfl | hp
        · exact .tail _ (.head _)
        · exact .tail _ (.tail _ (hsub p hp))), ⟨_, congrArg (fun z => some (Value.int z _)) (gd_step how)⟩, fun y a b c d => by simp only [if_neg a, if_neg b, if_neg c, if_neg d]⟩ : ∃ h' tk' m₂, _ = ({ s with heap := h', toks := tk' } : Shared) ∧ Fr s.heap L' h' m₂ ∧ News s.heap L' h' ((e, oe) :: (it, oi) :: imm) ∧ (∃ tk, m₂ (Str.ofString "found") = some (.int (gdTo code TT (i + 1)) tk)) ∧ ∀ y, y ≠ Str.ofString "found" → y ≠ Str.ofString "later" → y ≠ Str.ofString "standing" → y ≠ Str.ofString "place" → m₂ y = List.lookup y [(Str.ofString "function", Value.ref f)].reverse)
  case done =>
    intro h' tk mX F9 N9 hq5
    refine Classical.byContradiction fun hn9 => ?_
    obtain ⟨⟨tk1, hm1⟩, hm2⟩ := hq5
    (refine hn9 ?_; clear hn9)
    have hkl : kvs.length = code.length := by rw [hkvs.length]; simp
    rw [hkl] at hm1
    have em : mX = fun y => if y = Str.ofString "later" then mX (Str.ofString "later") else if y = Str.ofString "standing" then mX (Str.ofString "standing") else if y = Str.ofString "place" then mX (Str.ofString "place") else if y = Str.ofString "found" then some (.int (gdTo code TT code.length) tk1) else List.lookup y [(Str.ofString "function", Value.ref f)].reverse := by
      funext y9
      by_cases e90 : y9 = Str.ofString "later"
      · rw [if_pos e90, e90]
      by_cases e91 : y9 = Str.ofString "standing"
      · rw [if_neg e90, if_pos e91, e91]
      by_cases e92 : y9 = Str.ofString "place"
      · rw [if_neg e90, if_neg e91, if_pos e92, e92]
      by_cases e93 : y9 = Str.ofString "found"
      · rw [if_neg e90, if_neg e91, if_neg e92, if_pos e93, e93, hm1]
      rw [if_neg e90, if_neg e91, if_neg e92, if_neg e93]
      exact hm2 _ e93 e90 e91 e92
    clear hm1 hm2
    generalize mX (Str.ofString "later") = vl at em
    generalize mX (Str.ofString "standing") = vs at em
    generalize mX (Str.ofString "place") = vp at em
    subst em
    (try dsimp only)
    k_steps
    exact hR _ _ _ (Fr.keep (by k_asm))
end
end
section
set_option maxRecDepth 100000
set_option maxHeartbeats 8000000
local macro_rules | `(tactic| walk_at "subscriptTail Name Name ref str") => `(tactic| (refine rowItem (by k_asm) (by k_asm) (by assumption) ?_))
local macro_rules | `(tactic| walk_at "subscriptTail Name Subscript ref str") => `(tactic| (refine rowItem (by k_asm) (by k_asm) (by assumption) ?_))
local macro_rules | `(tactic| walk_at "subscriptTail Subscript Name Name Constant ref int") => `(tactic| (refine' topTup_K ?F ?X ?l ?a ?b ?c ?d ?_; (case F => k_asm); (case X => k_asm); (case l => assumption); walk_at "cd"))
local macro_rules | `(tactic| walk_at "subscriptTail Subscript Name Subscript Constant ref int") => `(tactic| (refine' topTup_K ?F ?X ?l ?a ?b ?c ?d ?_; (case F => k_asm); (case X => k_asm); (case l => assumption); walk_at "cd"))
section
variable {w : World} {s : Shared} {mg mb : Str → Option Value} {dp un : Nat} {fr : Option (List Env)} {gd : Option (List Code)} {R : Result → Shared → Prop}
/-- a word's sort in the table -/
noncomputable def SortRow (w : World) (wd sc : Str) : Prop :=
  ∃ r t1 t2 t3 t4 t5 p q b h, nsIn (kk.heap_1 w.params) 97 wd = some (some (.ref r)) ∧ (kk.heap_1 w.params).lookup r = some ⟨.type "tuple", none, .seq [Value.str sc t1, .int p t2, .int q t3, .int b t4, .int h t5].toArray 0, #[]⟩
noncomputable def SayStr (s : Shared) (R : Result → Shared → Prop) (k : Str) : Prop := ∀ h' tk t, s.heap.StaysIn h' → R (.ok (.ret (.str k t))) { s with heap := h', toks := tk }
theorem sort_ok {wd sc : Str} {t : Tok} (X : (kk.heap_1 w.params).In s.heap) (T : TopRead vw (looseW vw [Str.ofString "ROWS"]) mg mb s.heap) (hD : dp + 3 ≤ 400) (hr : SortRow w wd sc) (hR : SayStr s R sc) : codeAny (model PySem.Challenge.rw_rg0136_01.row.toRowW.prog w) (Ar dp un fr gd) (.call (.ref 228) ⟨[.str wd t], []⟩) R s := by
  refine Classical.byContradiction fun hn9 => ?_
  obtain ⟨r, t1, t2, t3, t4, t5, p, q, b, h, hr1, hr2⟩ := hr
  (refine hn9 ?_; clear hn9)
  refine' enter (K := kk.heap_1 _) (binds := [(Str.ofString "word", .str wd t)]) ?k3 ?k5 ?k6 ?k7 ?k8 ?k9 ?kB ?_ ?c2 ?c3 ?c4 ?c5; (case k3 => assumption); (case k5 => exact TopRead.nolimit (by k_asm)); (case k6 => k_is); (case k7 => k_is); (case k8 => ktr_room); (case k9 => exact BindsTo.of_eq rfl); (case c5 => decide); (case kB => exact locs rfl); (case c2 => exact rfl); (case c3 => exact rfl); (case c4 => exact rfl); intro L' h₁ F N; (try dsimp only); k_fold
  k_steps
  exact hR _ _ _ (Fr.keep (by k_asm))
theorem rowNotIn {h₀ : Heap} {L : Addr} {m : Str → Option Value} {A : Around} {E : Value → Shared → Prop} {Q : Value → Shared → Prop} {wd : Str} {t : Tok} {v : Value} (F : Fr h₀ L s.heap m) (X₀ : (kk.heap_1 w.params).In h₀) (e : nsIn (kk.heap_1 w.params) 97 wd = some (some v))
    (h : Q (.bool false) { s with toks := s.toks + 1 }) : wpAny (model PySem.Challenge.rw_rg0136_01.row.toRowW.prog w) A (compareOp .NotIn (.str wd t) (.ref 97)) Q E s := by
  refine Classical.byContradiction fun hn9 => ?_
  obtain ⟨es, n, h1, h2⟩ := rows_keys w.params
  (refine hn9 ?_; clear hn9)
  exact wpAny_notIn_of (strKind_is PySem.Challenge.rw_rg0136_01.row.toRowW.prog w wd t) rfl (mapOf_K (prog := PySem.Challenge.rw_rg0136_01.row.toRowW.prog) (X₀.keeps F.keep) h1 h2) (by rw [find_K h1 e]; exact h)
theorem call_sort {h₀ : Heap} {L : Addr} {m : Str → Option Value} {news : List (Addr × Obj)} {E : Value → Shared → Prop} {Q : Value → Shared → Prop} {wd sc : Str} {t : Tok} (F : Fr h₀ L s.heap m) (N : News h₀ L s.heap news) (X : (kk.heap_1 w.params).In h₀) (T : TopRead vw (looseW vw [Str.ofString "ROWS"]) mg mb h₀) (hD : dp + 3 ≤ 400) (hr : SortRow w wd sc)
    (h : ∀ h' tk t, Fr h₀ L h' m → News h₀ L h' news → Q (.str sc t) { s with heap := h', toks := tk }) : wpAny (model PySem.Challenge.rw_rg0136_01.row.toRowW.prog w) (Ar dp un fr gd) (call (.ref 228) [.str wd t]) Q E s :=
  wpAny_call (sort_ok (X.keeps F.keep) (T.keeps F.keep) hD hr fun h' tk t hk => h h' tk t (F.keeps hk) (N.grown hk))
local macro_rules | `(tactic| walk_at "compareOp NotIn str ref") => `(tactic| (k_here; k_dflt (refine' rowNotIn ?F ?X ?e ?_; (case F => k_asm); (case X => k_asm); (case e => assumption))))
local macro_rules | `(tactic| walk_at "call ref") => `(tactic| (tbr_iter (0, 228); k_dflt (refine' call_sort ?F ?N ?X ?T ?D ?r ?_; walk_at "FN"; walk_at "XT"; walk_at "D"; (case r => assumption); intro h' tk' t' F' N'; (try dsimp only))))
theorem word_none {f i : Addr} {wd : Str} {t1 t2 : Tok} (X : (kk.heap_1 w.params).In s.heap) (T : TopRead vw (looseW vw [Str.ofString "ROWS"]) mg mb s.heap) (hD : dp + 5 ≤ 400) (hU : un + 60 ≤ 5000) (hr : SortRow w wd (Str.ofString "none")) (hi : IsTup s.heap i #[.str wd t1, .int (-1) t2])
    (hR : ∀ h' tk, s.heap.StaysIn h' → R (.ok (.ret .none)) { s with heap := h', toks := tk }) : codeAny (model PySem.Challenge.rw_rg0136_01.row.toRowW.prog w) (Ar dp un fr gd) (.call (.ref 298) ⟨[.ref f, .ref i], []⟩) R s := by
  refine Classical.byContradiction fun hn9 => ?_
  obtain ⟨r9, _, _, _, _, _, _, _, _, _, hr1, _⟩ := id hr
  (refine hn9 ?_; clear hn9)
  refine' enter (K := kk.heap_1 _) (binds := [(Str.ofString "function", .ref f), (Str.ofString "instruction", .ref i)]) ?k3 ?k5 ?k6 ?k7 ?k8 ?k9 ?kB ?_ ?c2 ?c3 ?c4 ?c5; (case k3 => assumption); (case k5 => exact TopRead.nolimit (by k_asm)); (case k6 => k_is); (case k7 => k_is); (case k8 => ktr_room); (case k9 => exact BindsTo.of_eq rfl); (case c5 => decide); (case kB => exact locs rfl); (case c2 => exact rfl); (case c3 => exact rfl); (case c4 => exact rfl); intro L' h₁ F N; (try dsimp only); k_fold
  k_steps
  exact hR _ _ (Fr.keep (by k_asm))
local macro_rules | `(tactic| walk_at "eval Dict") => `(tactic| (k_here; k_dflt (refine' kdn_eval (knd := PySem.strKind _ _) ?F ?N ?b ?a ?l ?e ?n ?_; walk_at "FN"; (case b => exact TopRead.nolimit (by k_asm)); (case a => rfl); (case l => rfl); (case e => exact List.cons_ne_nil _ _); (case n => exact Nat.le_of_ble_eq_true rfl); intro d' h' o' F' N' l1 lo' hd'; (try k_lt l1))))
theorem word_count {f i cl kl : Addr} {wd : Str} {t1 t2 c1 c2 : Tok} {a : Int} {cvs : List Value} {cn kn : Nat} {dep : Int} (X : (kk.heap_1 w.params).In s.heap) (T : TopRead vw (looseW vw [Str.ofString "ROWS"]) mg mb s.heap) (hD : dp + 5 ≤ 400) (hU : un + 60 ≤ 5000) (hr : SortRow w wd (Str.ofString "count")) (hi : IsTup s.heap i #[.str wd t1, .int a t2])
    (hf : OwnAt s.heap f cl kl dep) (hc : s.heap.get? cl = some (lstObj cvs cn)) (hz : cvs.length ≤ 1000) (hk : s.heap.get? kl = some (lstObj [.int 1 c1, .int 2 c2] kn)) (h0 : 0 ≤ a)
    (hR : ∀ h' tk, s.heap.StaysIn h' → R (.ok (.ret .none)) { s with heap := h', toks := tk }) : codeAny (model PySem.Challenge.rw_rg0136_01.row.toRowW.prog w) (Ar dp un fr gd) (.call (.ref 298) ⟨[.ref f, .ref i], []⟩) R s := by
  refine Classical.byContradiction fun hn9 => ?_
  obtain ⟨r9, _, _, _, _, _, _, _, _, _, hr1, _⟩ := id hr
  (refine hn9 ?_; clear hn9)
  refine Classical.byContradiction fun hn9 => ?_
  obtain ⟨d, h1, h2, h3, h4, h5, h6, k1, k2, k3, k4, k5, k6, tt, td, hf1, hf2⟩ := hf
  (refine hn9 ?_; clear hn9)
  have hcL : s.heap.IsList cl cvs.toArray := ⟨_, hc, rfl, _, rfl⟩
  have hkL : s.heap.IsList kl [Value.int 1 c1, Value.int 2 c2].toArray := ⟨_, hk, rfl, _, rfl⟩
  refine' enter (K := kk.heap_1 _) (binds := [(Str.ofString "function", .ref f), (Str.ofString "instruction", .ref i)]) ?k3 ?k5 ?k6 ?k7 ?k8 ?k9 ?kB ?_ ?c2 ?c3 ?c4 ?c5; (case k3 => assumption); (case k5 => exact TopRead.nolimit (by k_asm)); (case k6 => k_is); (case k7 => k_is); (case k8 => ktr_room); (case k9 => exact BindsTo.of_eq rfl); (case c5 => decide); (case kB => exact locs rfl); (case c2 => exact rfl); (case c3 => exact rfl); (case c4 => exact rfl); intro L' h₁ F N; (try dsimp only); k_fold
  k_steps
  exact hR _ _ (Fr.keep (by k_asm))
local macro_rules | `(tactic| walk_at "subscriptTail Name Name ref str") => `(tactic| (with_reducible refine hold ?_))
theorem word_in {f i cl kl : Addr} {wd sc : Str} {t1 t2 c1 c2 : Tok} {a : Int} {cvs : List Value} {cn kn : Nat} {dep : Int} (X : (kk.heap_1 w.params).In s.heap) (T : TopRead vw (looseW vw [Str.ofString "ROWS"]) mg mb s.heap) (hD : dp + 5 ≤ 400) (hU : un + 60 ≤ 5000) (hr : SortRow w wd sc) (hi : IsTup s.heap i #[.str wd t1, .int a t2])
    (hf : OwnAt s.heap f cl kl dep) (hc : s.heap.get? cl = some (lstObj cvs cn)) (hz : cvs.length ≤ 1000) (hk : s.heap.get? kl = some (lstObj [.int 1 c1, .int 2 c2] kn)) (h0 : 0 ≤ a)
    (hn1 : (sc == Str.ofString "none") = false) (hn2 : (sc == Str.ofString "count") = false)
    (hs : (sc = Str.ofString "constant" ∧ a < 2) ∨ (sc = Str.ofString "symbol" ∧ a < 2) ∨ (sc = Str.ofString "place" ∧ a < cvs.length) ∨ (sc = Str.ofString "plain" ∧ a < 45))
    (hR : ∀ h' tk, s.heap.StaysIn h' → R (.ok (.ret .none)) { s with heap := h', toks := tk }) : codeAny (model PySem.Challenge.rw_rg0136_01.row.toRowW.prog w) (Ar dp un fr gd) (.call (.ref 298) ⟨[.ref f, .ref i], []⟩) R s := by
  refine Classical.byContradiction fun hn9 => ?_
  obtain ⟨r9, _, _, _, _, _, _, _, _, _, hr1, _⟩ := id hr
  (refine hn9 ?_; clear hn9)
  refine Classical.byContradiction fun hn9 => ?_
  obtain ⟨d, h1, h2, h3, h4, h5, h6, k1, k2, k3, k4, k5, k6, tt, td, hf1, hf2⟩ := hf
  (refine hn9 ?_; clear hn9)
  have hcL : s.heap.IsList cl cvs.toArray := ⟨_, hc, rfl, _, rfl⟩
  have hkL : s.heap.IsList kl [Value.int 1 c1, Value.int 2 c2].toArray := ⟨_, hk, rfl, _, rfl⟩
  refine' enter (K := kk.heap_1 _) (binds := [(Str.ofString "function", .ref f), (Str.ofString "instruction", .ref i)]) ?k3 ?k5 ?k6 ?k7 ?k8 ?k9 ?kB ?_ ?c2 ?c3 ?c4 ?c5; (case k3 => assumption); (case k5 => exact TopRead.nolimit (by k_asm)); (case k6 => k_is); (case k7 => k_is); (case k8 => ktr_room); (case k9 => exact BindsTo.of_eq rfl); (case c5 => decide); (case kB => exact locs rfl); (case c2 => exact rfl); (case c3 => exact rfl); (case c4 => exact rfl); intro L' h₁ F N; (try dsimp only); k_fold
  k_steps
  · unfold Hold
    rcases hs with ⟨rfl, hb⟩ | ⟨rfl, hb⟩ | ⟨rfl, hb⟩ | ⟨rfl, hb⟩
    all_goals (
      k_dflt (refine' item_strTab ?k1 ?k2 ?_; (case k1 => k_tabat); (case k2 => first | with_reducible assumption | rfl))
      intro v9 hv9
      dict_open hv9
      k_steps)
    all_goals first
      | exact hR _ _ (Fr.keep (by k_asm))
      | (exfalso; simp only [List.length_cons, List.length_nil] at *; omega)
  · exact hR _ _ (Fr.keep (by k_asm))
end
end
section
local macro_rules | `(tactic| walk_at "nowhere 0") => `(tactic| skip)
set_option maxRecDepth 100000
set_option maxHeartbeats 8000000
section
variable {w : World} {s : Shared} {mg mb : Str → Option Value} {dp un : Nat} {fr : Option (List Env)} {gd : Option (List Code)} {R : Result → Shared → Prop}
noncomputable def Op.sort : Op → Str
  | .const _ => Str.ofString "constant" | .varref => Str.ofString "symbol" | .varbind => Str.ofString "symbol" | .unbind => Str.ofString "count" | .stackref => Str.ofString "count" | .call => Str.ofString "count"
  | .cons => Str.ofString "plain" | .eq => Str.ofString "plain" | .list3 => Str.ofString "plain"
  | .goto _ => Str.ofString "place" | .gnil _ => Str.ofString "place" | .gnilpop _ => Str.ofString "place" | .gnonpop _ => Str.ofString "place" | .pcatch _ => Str.ofString "place"
  | .dup => Str.ofString "none" | .discard => Str.ofString "none" | .ret => Str.ofString "none" | .pop => Str.ofString "none"
noncomputable def Op.InRange (n : Nat) : Op → Prop
  | .const k => 0 ≤ k ∧ k < 2
  | .goto p | .gnil p | .gnilpop p | .gnonpop p | .pcatch p => 0 ≤ p ∧ p < n
  | _ => True
theorem sort_row (o : Op) : SortRow w o.word o.sort := by
  cases o <;> (dsimp only [Op.word, Op.sort]; exact ⟨_, _, _, _, _, _, _, _, _, _, by k_is, by k_is⟩)
theorem word_ok {f i : Addr} (o : Op) {code : List Op} {dep : Int} {t1 t2 : Tok} (X : (kk.heap_1 w.params).In s.heap) (T : TopRead vw (looseW vw [Str.ofString "ROWS"]) mg mb s.heap) (hD : dp + 5 ≤ 400) (hU : un + 60 ≤ 5000) (hi : IsTup s.heap i #[.str o.word t1, .int o.arg t2]) (hc : CodeAt s.heap f code dep) (hz : code.length ≤ 1000) (hr : o.InRange code.length)
    (hR : ∀ h' tk, s.heap.StaysIn h' → R (.ok (.ret .none)) { s with heap := h', toks := tk }) : codeAny (model PySem.Challenge.rw_rg0136_01.row.toRowW.prog w) (Ar dp un fr gd) (.call (.ref 298) ⟨[.ref f, .ref i], []⟩) R s := by
  refine Classical.byContradiction fun hn9 => ?_
  obtain ⟨cl, kl, cn, kn, cvs, c1, c2, hf, hcl, hcode, hkl⟩ := hc
  (refine hn9 ?_; clear hn9)
  have hl := hcode.length
  have hz' : cvs.length ≤ 1000 := by omega
  have hrow := sort_row (w := w) o
  cases o
  case dup => exact word_none X T hD hU hrow hi hR
  case discard => exact word_none X T hD hU hrow hi hR
  case ret => exact word_none X T hD hU hrow hi hR
  case pop => exact word_none X T hD hU hrow hi hR
  case unbind => exact word_count X T hD hU hrow hi hf hcl hz' hkl (by decide) hR
  case stackref => exact word_count X T hD hU hrow hi hf hcl hz' hkl (by decide) hR
  case call => exact word_count X T hD hU hrow hi hf hcl hz' hkl (by decide) hR
  case const k => exact word_in X T hD hU hrow hi hf hcl hz' hkl hr.1 (by dsimp only [Op.sort]; decide) (by dsimp only [Op.sort]; decide) (.inl ⟨rfl, hr.2⟩) hR
  case varref => exact word_in X T hD hU hrow hi hf hcl hz' hkl (by decide) (by decide) (by decide) (.inr (.inl ⟨rfl, by decide⟩)) hR
  case varbind => exact word_in X T hD hU hrow hi hf hcl hz' hkl (by decide) (by decide) (by decide) (.inr (.inl ⟨rfl, by decide⟩)) hR
  case cons => exact word_in X T hD hU hrow hi hf hcl hz' hkl (by decide) (by decide) (by decide) (.inr (.inr (.inr ⟨rfl, by decide⟩))) hR
  case eq => exact word_in X T hD hU hrow hi hf hcl hz' hkl (by decide) (by decide) (by decide) (.inr (.inr (.inr ⟨rfl, by decide⟩))) hR
  case list3 => exact word_in X T hD hU hrow hi hf hcl hz' hkl (by decide) (by decide) (by decide) (.inr (.inr (.inr ⟨rfl, by decide⟩))) hR
  all_goals exact word_in X T hD hU hrow hi hf hcl hz' hkl hr.1 (by dsimp only [Op.sort]; decide) (by dsimp only [Op.sort]; decide) (.inr (.inr (.inl ⟨rfl, by have := hr.2; show _ < (cvs.length : Int); rw [hl]; exact this⟩))) hR
theorem call_word {h₀ : Heap} {L : Addr} {m : Str → Option Value} {news : List (Addr × Obj)} {E : Value → Shared → Prop} {Q : Value → Shared → Prop} {f i : Addr} (o : Op) {code : List Op} {dep : Int} {t1 t2 : Tok} (F : Fr h₀ L s.heap m) (N : News h₀ L s.heap news) (X : (kk.heap_1 w.params).In h₀) (T : TopRead vw (looseW vw [Str.ofString "ROWS"]) mg mb h₀) (hD : dp + 5 ≤ 400) (hU : un + 60 ≤ 5000)
    (hi : IsTup s.heap i #[.str o.word t1, .int o.arg t2]) (hc : CodeAt h₀ f code dep) (hz : code.length ≤ 1000) (hr : o.InRange code.length)
    (h : ∀ h' tk, Fr h₀ L h' m → News h₀ L h' news → Q .none { s with heap := h', toks := tk }) : wpAny (model PySem.Challenge.rw_rg0136_01.row.toRowW.prog w) (Ar dp un fr gd) (call (.ref 298) [.ref f, .ref i]) Q E s :=
  wpAny_call (word_ok o (X.keeps F.keep) (T.keeps F.keep) hD hU hi (hc.keeps F.keep) hz hr fun h' tk hk => h h' tk (F.keeps hk) (N.grown hk))
end
local macro_rules | `(tactic| walk_at "exec For Tuple") => `(tactic| (with_reducible refine hold ?_))
local macro_rules | `(tactic| walk_at "exec For Tuple Call") => `(tactic| (with_reducible refine hold ?_))
local macro_rules | `(tactic| walk_at "call type:enumerate") => `(tactic| (with_reducible refine hold ?_))
local macro_rules | `(tactic| walk_at "call ref") => `(tactic| (with_reducible refine hold ?_))
local macro_rules | `(tactic| walk_at "Exists") => `(tactic| (with_reducible refine hold ?_))
local macro_rules | `(tactic| walk_at "subscriptTail Name Name ref int") => `(tactic| (k_here; k_dflt (refine' item_Ln ?l ?x ?z ?_; (case l => walk_at "nl"); walk_at "xn")))
local macro_rules | `(tactic| walk_at "subscriptTail Attribute Name Name ref int") => `(tactic| (k_here; k_dflt (refine' item_Ln ?l ?x ?z ?_; (case l => exact Fr.lst (by k_asm) (by assumption)); walk_at "xn")))
local macro_rules | `(tactic| walk_at "setItem ref int ref") => `(tactic| (k_here; k_dflt (refine' setItem_Vn ?F ?N ?U ?a ?z ?_; walk_at "FN"; (case U => k_upd); (case a => omega); (case z => omega); intro h' F' N')))
section
variable {w : World} {s : Shared} {mg mb : Str → Option Value} {dp un : Nat} {fr : Option (List Env)} {gd : Option (List Code)} {R : Result → Shared → Prop}
theorem bounds_ok {f : Addr} {dep : Int} {code : List Op} (X : (kk.heap_1 w.params).In s.heap) (T : TopRead vw (looseW vw [Str.ofString "ROWS"]) mg mb s.heap) (hD : dp + 7 ≤ 400) (hU : un + 80 ≤ 5000)
    (hc : CodeAt s.heap f code dep) (hz : code.length ≤ 1000) (hr : ∀ o ∈ code, o.InRange code.length) (hR : ∀ h' tk, s.heap.StaysIn h' → R (.ok (.ret .none)) { s with heap := h', toks := tk }) : codeAny (model PySem.Challenge.rw_rg0136_01.row.toRowW.prog w) (Ar dp un fr gd) (.call (.ref 305) ⟨[.ref f], []⟩) R s := by
  refine Classical.byContradiction fun hn9 => ?_
  obtain ⟨cl, kl, cn, kn, cvs, c1, c2, ⟨d, h1, h2, h3, h4, h5, h6, k1, k2, k3, k4, k5, k6, tt, td, hf1, hf2⟩, hcl, hcode, hkl⟩ := id hc
  (refine hn9 ?_; clear hn9)
  have hcL : s.heap.IsList cl cvs.toArray := ⟨_, hcl, rfl, _, rfl⟩
  refine' enter (K := kk.heap_1 _) (binds := [(Str.ofString "function", .ref f)]) ?k3 ?k5 ?k6 ?k7 ?k8 ?k9 ?kB ?_ ?c2 ?c3 ?c4 ?c5; (case k3 => assumption); (case k5 => exact TopRead.nolimit (by k_asm)); (case k6 => k_is); (case k7 => k_is); (case k8 => ktr_room); (case k9 => exact BindsTo.of_eq rfl); (case c5 => decide); (case kB => exact locs rfl); (case c2 => exact rfl); (case c3 => exact rfl); (case c4 => exact rfl); intro L' h₁ F N; (try dsimp only); k_fold
  k_steps
  unfold Hold
  refine wpAny_For ?_ (by intro _; rfl)
  k_steps
  unfold Hold
  k_dflt (refine' enum_call rfl rfl rfl rfl ?F ?N ?hl (fun i m' => ∀ y, y ≠ Str.ofString "word" → y ≠ Str.ofString "instruction" → y ≠ Str.ofString "place" → m' y = List.lookup y [(Str.ofString "function", Value.ref f)].reverse) ?h0 ?step ?done; (case F => k_asm); (case N => k_asm))
  case hl => exact fun h m F N => F.lst hcL
  case h0 => exact fun y _ _ _ => rfl
  case step =>
    rintro i v tk mX h tk' e it oe oi hv hm2 F3 N3
    refine Classical.byContradiction fun hn9 => ?_
    obtain ⟨ow, how, ia, it1, it2, rfl, hit⟩ := hcode.get2 hv
    (refine hn9 ?_; clear hn9)
    have hitT := hit.isTup
    have hin := hr _ (List.mem_of_getElem? how)
    have em : mX = fun y => if y = Str.ofString "word" then mX (Str.ofString "word") else if y = Str.ofString "instruction" then mX (Str.ofString "instruction") else if y = Str.ofString "place" then mX (Str.ofString "place") else List.lookup y [(Str.ofString "function", Value.ref f)].reverse := by
      funext y9
      by_cases e90 : y9 = Str.ofString "word"
      · rw [if_pos e90, e90]
      by_cases e91 : y9 = Str.ofString "instruction"
      · rw [if_neg e90, if_pos e91, e91]
      by_cases e92 : y9 = Str.ofString "place"
      · rw [if_neg e90, if_neg e91, if_pos e92, e92]
      rw [if_neg e90, if_neg e91, if_neg e92]
      exact hm2 _ e90 e91 e92
    clear hm2
    generalize mX (Str.ofString "word") = vw at em
    generalize mX (Str.ofString "instruction") = vi at em
    generalize mX (Str.ofString "place") = vp at em
    subst em
    k_steps
    unfold Hold
    k_dflt (refine' call_word ow ?F ?N ?X ?T ?D ?U ?i ?c ?z ?r ?_; (case F => k_asm); (case N => k_asm); (case X => k_asm); (case T => k_asm); (case D => ((try simp only [Ar, depth_deeper, units_deeper, recursionLimit, cLine] at *); omega)); (case U => ((try simp only [Ar, depth_deeper, units_deeper, recursionLimit, cLine] at *); omega)); (case i => exact Fr.tup (by k_asm) (by assumption)); (case c => assumption); (case z => assumption); (case r => assumption))
    intro h2' tk2' F4 N4
    (try dsimp only)
    k_steps
    unfold Hold
    exact (⟨_, _, _, rfl, (by k_asm), (by k_asm), fun y b c d => by simp only [if_neg b, if_neg c, if_neg d]⟩ : ∃ h' tk' m₂, _ = ({ s with heap := h', toks := tk' } : Shared) ∧ Fr s.heap L' h' m₂ ∧ News s.heap L' h' ((e, oe) :: (it, oi) :: []) ∧ ∀ y, y ≠ Str.ofString "word" → y ≠ Str.ofString "instruction" → y ≠ Str.ofString "place" → m₂ y = List.lookup y [(Str.ofString "function", Value.ref f)].reverse)
  case done =>
    rintro h' tk mX F9 N9 hm2
    have em : mX = fun y => if y = Str.ofString "word" then mX (Str.ofString "word") else if y = Str.ofString "instruction" then mX (Str.ofString "instruction") else if y = Str.ofString "place" then mX (Str.ofString "place") else List.lookup y [(Str.ofString "function", Value.ref f)].reverse := by
      funext y9
      by_cases e90 : y9 = Str.ofString "word"
      · rw [if_pos e90, e90]
      by_cases e91 : y9 = Str.ofString "instruction"
      · rw [if_neg e90, if_pos e91, e91]
      by_cases e92 : y9 = Str.ofString "place"
      · rw [if_neg e90, if_neg e91, if_pos e92, e92]
      rw [if_neg e90, if_neg e91, if_neg e92]
      exact hm2 _ e90 e91 e92
    clear hm2
    generalize mX (Str.ofString "word") = vw at em
    generalize mX (Str.ofString "instruction") = vi at em
    generalize mX (Str.ofString "place") = vp at em
    subst em
    (try dsimp only)
    k_steps
    exact hR _ _ (Fr.keep (by k_asm))
theorem call_bounds {h₀ : Heap} {L : Addr} {m : Str → Option Value} {news : List (Addr × Obj)} {E : Value → Shared → Prop} {Q : Value → Shared → Prop} {f : Addr} {code : List Op} {dep : Int} (F : Fr h₀ L s.heap m) (N : News h₀ L s.heap news) (X : (kk.heap_1 w.params).In h₀) (T : TopRead vw (looseW vw [Str.ofString "ROWS"]) mg mb h₀) (hD : dp + 7 ≤ 400) (hU : un + 80 ≤ 5000)
    (hc : CodeAt h₀ f code dep) (hz : code.length ≤ 1000) (hr : ∀ o ∈ code, o.InRange code.length)
    (h : ∀ h' tk, Fr h₀ L h' m → News h₀ L h' news → Q .none { s with heap := h', toks := tk }) : wpAny (model PySem.Challenge.rw_rg0136_01.row.toRowW.prog w) (Ar dp un fr gd) (call (.ref 305) [.ref f]) Q E s :=
  wpAny_call (bounds_ok (X.keeps F.keep) (T.keeps F.keep) hD hU (hc.keeps F.keep) hz hr fun h' tk hk => h h' tk (F.keeps hk) (N.grown hk))
theorem call_depth {h₀ : Heap} {L : Addr} {m : Str → Option Value} {news : List (Addr × Obj)} {E : Value → Shared → Prop} {Q : Value → Shared → Prop} {f : Addr} {code : List Op} {TT : Nat → St} {dep : Int} (F : Fr h₀ L s.heap m) (N : News h₀ L s.heap news) (X : (kk.heap_1 w.params).In h₀) (T : TopRead vw (looseW vw [Str.ofString "ROWS"]) mg mb h₀) (hD : dp + 10 ≤ 400) (hU : un + 120 ≤ 5000)
    (hc : CodeAt h₀ f code dep) (W : WellMade code TT)
    (h : ∀ h' tk t, Fr h₀ L h' m → News h₀ L h' news → Q (.int (gdTo code TT code.length) t) { s with heap := h', toks := tk }) : wpAny (model PySem.Challenge.rw_rg0136_01.row.toRowW.prog w) (Ar dp un fr gd) (call (.ref 333) [.ref f]) Q E s :=
  wpAny_call (depth_ok (X.keeps F.keep) (T.keeps F.keep) hD hU (hc.keeps F.keep) W fun h' tk t hk => h h' tk t (F.keeps hk) (N.grown hk))
end
end
section
set_option maxRecDepth 100000
set_option maxHeartbeats 8000000
local macro_rules | `(tactic| walk_at "call ref") => `(tactic| (with_reducible refine hold ?_))
local macro_rules | `(tactic| walk_at "compareOp Eq ref ref") => `(tactic| (with_reducible refine hold ?_))
local macro_rules | `(tactic| walk_at "subscriptTail Name Name ref int") => `(tactic| (k_here; k_dflt (refine' item_Ln ?l ?x ?z ?_; (case l => walk_at "nl"); walk_at "xn")))
local macro_rules | `(tactic| walk_at "subscriptTail Attribute Name Name ref int") => `(tactic| (k_here; k_dflt (refine' item_Ln ?l ?x ?z ?_; (case l => exact Fr.lst (by k_asm) (by assumption)); walk_at "xn")))
local macro_rules | `(tactic| walk_at "setItem ref int ref") => `(tactic| (k_here; k_dflt (refine' setItem_Vn ?F ?N ?U ?a ?z ?_; walk_at "FN"; (case U => k_upd); (case a => omega); (case z => omega); intro h' F' N')))
local macro_rules | `(tactic| walk_at "subscriptTail Call") => `(tactic| (k_here; k_dflt (refine' item_T ?t ?a ?b ?c ?d ?_; (case t => walk_at "it"); walk_at "cd")))
section
variable {w : World} {s : Shared} {mg mb : Str → Option Value} {dp un : Nat} {fr : Option (List Env)} {gd : Option (List Code)} {R : Result → Shared → Prop}
theorem error_ok {f : Addr} {dep : Int} {code : List Op} {TT : Nat → St} (X : (kk.heap_1 w.params).In s.heap) (T : TopRead vw (looseW vw [Str.ofString "ROWS"]) mg mb s.heap) (hD : dp + 12 ≤ 400) (hU : un + 140 ≤ 5000)
    (hc : CodeAt s.heap f code dep) (W : WellMade code TT) (hr : ∀ o ∈ code, o.InRange code.length)
    (hR1 : gdTo code TT code.length ≤ dep → ∀ h' tk, s.heap.StaysIn h' → R (.ok (.ret .none)) { s with heap := h', toks := tk })
    (hR2 : dep < gdTo code TT code.length → ∀ h' tk r n t1 t2, s.heap.StaysIn h' → s.heap.get? r = none → h'.get? r = some (tupObj [.int 0 t1, .str (Str.ofString "depth") t2] n) → R (.ok (.ret (.ref r))) { s with heap := h', toks := tk }) : codeAny (model PySem.Challenge.rw_rg0136_01.row.toRowW.prog w) (Ar dp un fr gd) (.call (.ref 340) ⟨[.ref f], []⟩) R s := by
  have hem : Sub Em (hSt s.heap) := fun _ _ e => e.elim
  have hz := W.small
  refine Classical.byContradiction fun hn9 => ?_
  obtain ⟨cl, kl, cn, kn, cvs, c1, c2, ⟨d, h1, h2, h3, h4, h5, h6, k1, k2, k3, k4, k5, k6, tt, td, hf1, hf2⟩, hcl, hcode, hkl⟩ := id hc
  (refine hn9 ?_; clear hn9)
  have hcL : s.heap.IsList cl cvs.toArray := ⟨_, hcl, rfl, _, rfl⟩
  have hne : cvs.isEmpty = false := by
    have h1 := hcode.length
    have h2 := W.pos
    cases cvs with
    | nil => simp at h1; omega
    | cons a b => rfl
  refine' enter (K := kk.heap_1 _) (binds := [(Str.ofString "function", .ref f)]) ?k3 ?k5 ?k6 ?k7 ?k8 ?k9 ?kB ?_ ?c2 ?c3 ?c4 ?c5; (case k3 => assumption); (case k5 => exact TopRead.nolimit (by k_asm)); (case k6 => k_is); (case k7 => k_is); (case k8 => ktr_room); (case k9 => exact BindsTo.of_eq rfl); (case c5 => decide); (case kB => exact locs rfl); (case c2 => exact rfl); (case c3 => exact rfl); (case c4 => exact rfl); intro L' h₁ F N; (try dsimp only); k_fold
  k_steps
  unfold Hold
  k_dflt (refine' call_bounds ?F ?N ?X ?T ?D ?U ?c ?z ?r ?_; (case F => k_asm); (case N => k_asm); (case X => k_asm); (case T => k_asm); (case D => ((try simp only [Ar, depth_deeper, units_deeper, recursionLimit, cLine] at *); omega)); (case U => ((try simp only [Ar, depth_deeper, units_deeper, recursionLimit, cLine] at *); omega)); (case c => assumption); (case z => assumption); (case r => assumption))
  intro h2' tk2' F4 N4
  (try dsimp only)
  k_steps
  unfold Hold
  k_dflt (refine' eqNilV (us := cvs) ?l ?e ?u ?_; (case l => exact Fr.lst (by k_asm) (by assumption)); (case e => exact News.isList (by k_asm) (by k_mem)); (case u => ((try simp only [Ar, depth_deeper, units_deeper, recursionLimit, cLine] at *); omega)))
  rw [hne]
  k_steps
  unfold Hold
  k_dflt (refine' call_standings ?F ?N ?X ?T ?D ?U ?c ?W ?_; (case F => k_asm); (case N => k_asm); (case X => k_asm); (case T => k_asm); (case D => ((try simp only [Ar, depth_deeper, units_deeper, recursionLimit, cLine] at *); omega)); (case U => ((try simp only [Ar, depth_deeper, units_deeper, recursionLimit, cLine] at *); omega)); (case c => assumption); (case W => assumption))
  intro h2' tk2' r imm hk2 F2 N2 hf2 hr9
  refine Classical.byContradiction fun hn9 => ?_
  obtain ⟨fl, htr, kvs, ⟨fn, hfl⟩, hkvs⟩ := hr9
  (refine hn9 ?_; clear hn9)
  clear hk2 hf2
  (try dsimp only)
  k_steps
  unfold Hold
  k_dflt (refine' call_depth ?F ?N ?X ?T ?D ?U ?c ?W ?_; (case F => k_asm); (case N => k_asm); (case X => k_asm); (case T => k_asm); (case D => ((try simp only [Ar, depth_deeper, units_deeper, recursionLimit, cLine] at *); omega)); (case U => ((try simp only [Ar, depth_deeper, units_deeper, recursionLimit, cLine] at *); omega)); (case c => assumption); (case W => assumption))
  intro h2' tk2' t9 F4 N4
  (try dsimp only)
  k_steps
  · exact hR2 (by assumption) _ _ _ _ _ _ (Fr.keep (by k_asm)) (News.fresh (by k_asm) (by k_mem)) (News.get (by k_asm) (by k_mem))
  · exact hR1 (by omega) _ _ (Fr.keep (by k_asm))
end
end
section
set_option maxRecDepth 100000
set_option maxHeartbeats 1000000
local macro_rules | `(tactic| walk_at "eval ListComp") => `(tactic| (with_reducible refine hold ?_))
local macro_rules | `(tactic| walk_at "SrcLP") => `(tactic| (with_reducible refine hold ?_))
local macro_rules | `(tactic| walk_at "CompEnd") => `(tactic| (with_reducible refine hold ?_))
section
noncomputable def Op.move (k : Int) : Op → Op
  | .goto p => .goto (p + k) | .gnil p => .gnil (p + k) | .gnilpop p => .gnilpop (p + k) | .gnonpop p => .gnonpop (p + k) | .pcatch p => .pcatch (p + k)
  | o => o
variable {w : World} {s : Shared} {mg mb : Str → Option Value} {dp un : Nat} {fr : Option (List Env)} {gd : Option (List Code)} {R : Result → Shared → Prop}
theorem word_short (o : Op) : o.word.length ≤ sizeLine := by cases o <;> (dsimp only [Op.word]; decide)
theorem move_goto {o : Op} {k : Int} (h : (Txt.slice o.word none (some 4) == Str.ofString "goto") = true) : (o.move k).word = o.word ∧ (o.move k).arg = o.arg + k := by
  cases o <;> first | exact ⟨rfl, rfl⟩ | (exfalso; dsimp only [Op.word] at h; revert h; decide)
theorem move_catch {o : Op} {k : Int} (h : (o.word == Str.ofString "pushcatch") = true) : (o.move k).word = o.word ∧ (o.move k).arg = o.arg + k := by
  cases o <;> first | exact ⟨rfl, rfl⟩ | (exfalso; dsimp only [Op.word] at h; revert h; decide)
theorem move_not {o : Op} {k : Int} (h : (Txt.slice o.word none (some 4) == Str.ofString "goto") = false) (h2 : (o.word == Str.ofString "pushcatch") = false) : (o.move k).word = o.word ∧ (o.move k).arg = o.arg := by
  cases o <;> first | exact ⟨rfl, rfl⟩ | (exfalso; dsimp only [Op.word] at h; revert h; decide) | (exfalso; dsimp only [Op.word] at h2; revert h2; decide)
open LCg in
theorem moved_end {g : Heap} {L I C D T : Addr} {m : Str → Option Value} {s1 : Shared} {oI oC oD : Obj} {c : Addr × Obj} {imm imm' : List (Addr × Obj)} {a : Addr} {its : List Value} {n : Nat} {ys : List Value} {ops : List Op} {i : Nat} {o : Op} {k : Int} {wd : Str} {z : Int} {u u2 : Tok} {h' : Heap} {tk : Nat}
    (F : Fr g L h' m) (N : News g L h' ((T, tupObj [.str wd u, .int z u2] 0) :: (I, oI) :: (C, oC) :: (D, oD) :: c :: imm')) (l1 : @LT.lt Nat _ I T ∧ @LT.lt Nat _ C T ∧ @LT.lt Nat _ D T) (off : Off3 I C D (c :: imm')) (hsub : ∀ p ∈ imm, p ∈ imm') (ha : (a, lstObj its n) ∈ imm)
    (hinv : All2 (InstrAt (Hs Em imm')) ys ((ops.take i).map (Op.move k))) (ho : ops[i]? = some o) (e : (o.move k).word = wd ∧ (o.move k).arg = z) :
    CompEnd g L m s1 I oI C oC D oD (SrcAt g a its.toArray) (fun y news' => ∃ imm'', news' = c :: imm'' ∧ (∀ p ∈ imm, p ∈ imm'') ∧ All2 (InstrAt (Hs Em imm'')) (ys ++ [y]) ((ops.take (i + 1)).map (Op.move k))) (.ref T) { s1 with heap := h', toks := tk } := by
  refine Classical.byContradiction fun hn9 => ?_
  obtain ⟨l1, l2, l3⟩ := l1
  (refine hn9 ?_; clear hn9)
  refine CompEnd.intro F N (c :: (T, tupObj [.str wd u, .int z u2] 0) :: imm') ?_ ⟨off.1, ⟨Nat.ne_of_gt l1, Nat.ne_of_gt l2, Nat.ne_of_gt l3⟩, off.2⟩ (.inr ⟨_, .tail _ (.tail _ (hsub _ ha)), rfl, _, rfl⟩) ⟨_, rfl, fun p hp => .tail _ (hsub p hp), ?_⟩
  · intro p hp
    simp only [List.mem_cons] at hp ⊢
    rcases hp with h | h | h | h | h | h <;> simp [h]
  · rw [List.take_add_one, ho, List.map_append]
    refine All2.append (hinv.mono fun _ _ q => q.mono (hs_more fun p hp => .tail _ hp)) (.cons ⟨T, u, u2, rfl, 0, .inr ?_⟩ .nil)
    rw [e.1, e.2]
    exact .head _
theorem moved_ok {h₀ : Heap} {L : Addr} {m : Str → Option Value} {imm : List (Addr × Obj)} {a : Addr} {ops : List Op} {k : Int} {tk : Tok} (F₀ : Fr h₀ L s.heap m) (N₀ : News h₀ L s.heap imm) (X₀ : (kk.heap_1 w.params).In h₀) (T₀ : TopRead vw (looseW vw [Str.ofString "ROWS"]) mg mb h₀) (hD : dp + 3 ≤ 400) (hU : un + 60 ≤ 5000) (ha : LinesAt (Hs Em imm) a ops)
    (hz : ops.length ≤ 1000) (hR : ∀ h' tk b, s.heap.StaysIn h' → LinesAt (Ext (Hs Em imm) s.heap h') b (ops.map (Op.move k)) → R (.ok (.ret (.ref b))) { s with heap := h', toks := tk }) : codeAny (model PySem.Challenge.rw_rg0136_01.row.toRowW.prog w) (Ar dp un fr gd) (.call (.ref 357) ⟨[.ref a, .int k tk], []⟩) R s := by
  refine Classical.byContradiction fun hn9 => ?_
  obtain ⟨vs, ⟨n, hl⟩, hall⟩ := ha
  (refine hn9 ?_; clear hn9)
  have hl : (a, lstObj vs n) ∈ imm := hl.elim (fun q => q.elim) id
  refine Classical.byContradiction fun hn9 => ?_
  obtain ⟨b1, b2, b3⟩ := hide_base F₀ N₀
  (refine hn9 ?_; clear hn9)
  have X := X₀.keeps b1
  have T := T₀.keeps b1
  refine' enterC (K := kk.heap_1 _) (binds := [(Str.ofString "lines", .ref a), (Str.ofString "by", .int k tk)]) (hideAll s.heap (imm.map (·.1))) imm ?k3 ?k5 ?kk ?kz ?kp ?k6 ?k7 ?k8 ?k9 ?kB ?kN ?_ ?c2 ?c3 ?c4; (case k6 => k_is); (case k7 => k_is); (case k8 => ((try simp only [Ar, depth_deeper, units_deeper, recursionLimit, cLine] at *); omega)); (case k9 => exact BindsTo.of_eq rfl); (case kB => exact rfl); (case kN => decide +kernel); (case c2 => exact rfl); (case c3 => exact rfl); (case c4 => exact rfl)
  case k3 => exact X
  case k5 => exact TopRead.nolimit (T.keeps b2)
  case kk => exact b2
  case kz => exact Nat.le_of_eq (hideAll_size _ _)
  case kp => exact b3
  intro L' h₁ tk1 cells F N Y l1
  k_cells Y
  (try simp only [List.cons_append, List.nil_append] at N)
  (try dsimp only)
  generalize hg : hideAll s.heap (imm.map (·.1)) = g at *
  (try k_fold)
  k_steps
  unfold Hold
  k_dflt (refine LCp.ListComp_P (F₀ := by k_asm) (by with_unfolding_all rfl) (by decide) (by rfl) (by decide) (by rfl) (by rfl) (by decide) ?_)
  k_steps
  unfold Hold
  k_dflt (refine LCp.SrcLP.ledger (by rfl) (by k_asm) (by k_asm) (List.mem_cons_of_mem _ hl) ?hz ?_)
  case hz => rw [List.size_toArray, hall.length, sizeLine_eq]; omega
  intro g'
  refine compP_all (fun imm' ys i => All2 (InstrAt (Hs Em imm')) ys ((ops.take i).map (Op.move k))) ?_ ?_ ?_
  · intro i v ys imm' hv hsub hinv
    refine Classical.byContradiction fun hn9 => ?_
    obtain ⟨o, ho, ai, u1, u2, rfl, nn, hai⟩ := hall.get2 hv
    (refine hn9 ?_; clear hn9)
    have hai : (ai, tupObj [.str o.word u1, .int o.arg u2] nn) ∈ imm := hai.elim (fun q => q.elim) id
    refine ⟨ai, _, _, _, nn, rfl, List.mem_cons_of_mem _ (hsub _ hai), rfl, rfl, ?_⟩
    intro I oI C oC D m₂ h3 tk3 E' hoC hx hy F3 N3 off3 ne3
    k_steps
    k_dflt (refine slice_strN_ns (s := ⟨_, _, _, _, _⟩) F3 N3 ?_ (hsz := word_short o))
    intro h4 t4 k4 F4 N4
    k_steps
    all_goals unfold Hold
    · exact moved_end (by k_asm) (by k_asm) (by refine ⟨?_, ?_, ?_⟩ <;> omega) off3 hsub hl hinv ho (move_goto (by assumption))
    · exact moved_end (by k_asm) (by k_asm) (by refine ⟨?_, ?_, ?_⟩ <;> omega) off3 hsub hl hinv ho (move_catch (by assumption))
    · exact moved_end (by k_asm) (by k_asm) (by refine ⟨?_, ?_, ?_⟩ <;> omega) off3 hsub hl hinv ho (move_not (by assumption) (by assumption))
  · intro ys imm' hsub hinv D h5 tk5 F5 N5 off5
    have e : ops.take vs.length = ops := by rw [hall.length]; simp
    rw [e] at hinv
    have hsub' : ∀ c9, ∀ p ∈ imm, p ∈ (D, LCg.lst ys) :: c9 :: imm' := fun c9 p hp => .tail _ (.tail _ (hsub p hp))
    have hx := hide_ext hg N5 (hsub' _)
    exact hR _ _ _ (hide_stays' hg F5.keep N5 (hsub' _) fun p hp => (b3 p hp).1) ⟨ys, ⟨_, hx _ _ (.inr (.head _))⟩, hinv.mono fun _ _ q => q.mono fun a o e => hx a o (e.elim (fun q => q.elim) fun q => .inr (.tail _ (.tail _ q)))⟩
  · exact .nil
end
end
section
set_option maxRecDepth 100000
set_option maxHeartbeats 1000000
noncomputable def chain (ps : List (List Op)) : List Op := ps.foldl (fun acc p => acc ++ p.map (Op.move acc.length)) []
theorem chain_snoc (ps : List (List Op)) (p : List Op) : chain (ps ++ [p]) = chain ps ++ p.map (Op.move (chain ps).length) := by simp [chain, List.foldl_append]
theorem chain_step {ps : List (List Op)} {i : Nat} {p : List Op} (h : ps[i]? = some p) : chain (ps.take (i + 1)) = chain (ps.take i) ++ p.map (Op.move (chain (ps.take i)).length) := by
  rw [List.take_add_one, h]; exact chain_snoc _ _
theorem chain_le (ps : List (List Op)) : ∀ i, (chain (ps.take i)).length ≤ (chain ps).length := by
  intro i
  by_cases hi : i < ps.length
  · have key : ∀ j, i + j ≤ ps.length → (chain (ps.take i)).length ≤ (chain (ps.take (i + j))).length := by
      intro j
      induction j with
      | zero => intro _; exact Nat.le_refl _
      | succ j ih =>
        intro hj
        have h1 := ih (by omega)
        have h2 : ps[i + j]? = some ps[i + j] := List.getElem?_eq_getElem (by omega)
        rw [show i + (j + 1) = i + j + 1 by omega, chain_step h2, List.length_append]
        omega
    have := key (ps.length - i) (by omega)
    rw [show i + (ps.length - i) = ps.length by omega, List.take_length] at this
    exact this
  · rw [List.take_of_length_le (by omega)]; exact Nat.le_refl _
local macro_rules | `(tactic| walk_at "exec For") => `(tactic| (with_reducible refine hold ?_))
local macro_rules | `(tactic| walk_at "exec For Name Name cons nil") => `(tactic| (with_reducible refine hold ?_))
local macro_rules | `(tactic| walk_at "call ref") => `(tactic| (with_reducible refine hold ?_))
local macro_rules | `(tactic| walk_at "Exists") => `(tactic| (with_reducible refine hold ?_))
local macro_rules | `(tactic| walk_at "binaryOp Add ref ref") => `(tactic| (with_reducible refine hold ?_))
local macro_rules | `(tactic| walk_at "call builtin:len") => `(tactic| (tbr_iter (1, "len"); k_dflt (refine' len_V ?l ?z ?_; (case l => walk_at "lt"); (case z => first | assumption | walk_at "ml"); intro t9 tk9)))
section
variable {w : World} {s : Shared} {mg mb : Str → Option Value} {dp un : Nat} {fr : Option (List Env)} {gd : Option (List Code)} {R : Result → Shared → Prop}
noncomputable def PartAt (σ : Store) (v : Value) (ops : List Op) : Prop := ∃ a, v = Value.ref a ∧ LinesAt σ a ops
theorem chained_ok {h₀ : Heap} {L : Addr} {m : Str → Option Value} {imm : List (Addr × Obj)} {pl : Addr} {pvs : List Value} {pn : Nat} {ps : List (List Op)} (F₀ : Fr h₀ L s.heap m) (N₀ : News h₀ L s.heap imm) (X₀ : (kk.heap_1 w.params).In h₀) (T₀ : TopRead vw (looseW vw [Str.ofString "ROWS"]) mg mb h₀) (hD : dp + 5 ≤ 400) (hU : un + 80 ≤ 5000)
    (hpl : (pl, lstObj pvs pn) ∈ imm) (hps : All2 (PartAt (Hs Em imm)) pvs ps) (hz : (chain ps).length ≤ 1000) (hz1 : ∀ p ∈ ps, p.length ≤ 1000)
    (hR : ∀ h' tk b, s.heap.StaysIn h' → LinesAt (Ext (Hs Em imm) s.heap h') b (chain ps) → R (.ok (.ret (.ref b))) { s with heap := h', toks := tk }) : codeAny (model PySem.Challenge.rw_rg0136_01.row.toRowW.prog w) (Ar dp un fr gd) (.call (.ref 364) ⟨[.ref pl], []⟩) R s := by
  refine Classical.byContradiction fun hn9 => ?_
  obtain ⟨b1, b2, b3⟩ := hide_base F₀ N₀
  (refine hn9 ?_; clear hn9)
  have X := X₀.keeps b1
  have T := T₀.keeps b1
  refine' enter2 (K := kk.heap_1 _) (binds := [(Str.ofString "parts_here", .ref pl)]) (hideAll s.heap (imm.map (·.1))) imm ?k3 ?k5 ?kk ?kz ?kp ?k6 ?k7 ?k8 ?k9 ?kB ?_ ?c2 ?c3 ?c4 ?c5; (case k6 => k_is); (case k7 => k_is); (case k8 => ktr_room); (case k9 => exact BindsTo.of_eq rfl); (case c5 => decide); (case kB => exact locs rfl); (case c2 => exact rfl); (case c3 => exact rfl); (case c4 => exact rfl)
  case k3 => exact X
  case k5 => exact TopRead.nolimit (T.keeps b2)
  case kk => exact b2
  case kz => exact Nat.le_of_eq (hideAll_size _ _)
  case kp => exact b3
  intro L' h₁ F N
  (try dsimp only)
  generalize hg : hideAll s.heap (imm.map (·.1)) = g at *
  have hem : Sub Em (hSt g) := fun _ _ e => e.elim
  k_steps
  unfold Hold
  refine wpAny_For ?_ (by intro _; rfl)
  k_steps
  k_dflt (refine' list_for (items := pvs) rfl rfl rfl ?F ?N (fun i m' news' => (∃ l1, m' (Str.ofString "lines") = some (.ref l1) ∧ LinesAt (Hs Em news') l1 (chain (ps.take i))) ∧ (∀ y, y ≠ Str.ofString "lines" → y ≠ Str.ofString "part" → m' y = List.lookup y [(Str.ofString "parts_here", Value.ref pl)].reverse) ∧ ∀ p ∈ imm, p ∈ news') ?h0 ?hl ?step ?done; (case F => k_asm); (case N => k_asm))
  case h0 => exact ⟨⟨_, rfl, [], ⟨_, .inr (.head _)⟩, .nil⟩, fun y a b => by simp only [if_neg a], fun p hp => .tail _ hp⟩
  case hl => exact fun i h m news hJ F N => ⟨_, (N _ (hJ.2.2 _ hpl)).1, rfl, _, rfl⟩
  case step =>
    intro i v mX news1 h3 tk3 I oi hv hq9 off F3 N3
    refine Classical.byContradiction fun hn9 => ?_
    obtain ⟨⟨l1, hm1, us, hl1, hus⟩, hm2, hsub⟩ := hq9
    (refine hn9 ?_; clear hn9)
    refine Classical.byContradiction fun hn9 => ?_
    obtain ⟨ops, hops, pa, rfl, hpa⟩ := hps.get2 hv
    (refine hn9 ?_; clear hn9)
    have hpa := hpa.mono (hs_more hsub)
    have hul : us.length ≤ 1000 := by
      have h1 := hus.length
      have h2 := chain_le ps i
      omega
    have hpl1 := hz1 _ (List.mem_of_getElem? hops)
    have em : mX = fun y => if y = Str.ofString "part" then mX (Str.ofString "part") else if y = Str.ofString "lines" then some (.ref l1) else List.lookup y [(Str.ofString "parts_here", Value.ref pl)].reverse := by
      funext y9
      by_cases e90 : y9 = Str.ofString "part"
      · rw [if_pos e90, e90]
      by_cases e91 : y9 = Str.ofString "lines"
      · rw [if_neg e90, if_pos e91, e91, hm1]
      rw [if_neg e90, if_neg e91]
      exact hm2 _ e91 e90
    clear hm1 hm2
    generalize mX (Str.ofString "part") = vp at em
    subst em
    refine Classical.byContradiction fun hn9 => ?_
    obtain ⟨un1, hl1⟩ := hl1
    (refine hn9 ?_; clear hn9)
    have hl1T : Lst (Hs Em news1) l1 us := ⟨un1, hl1⟩
    k_steps
    unfold Hold
    refine wpAny_call (moved_ok (imm := news1) (ops := ops) (F₀ := by k_asm) (N₀ := news_sub (by k_asm : News g L' _ ((I, oi) :: news1)) (by (intro p9 hp9; repeat (first | assumption | refine List.mem_cons_of_mem _ ?_)))) X T (by ((try simp only [Ar, depth_deeper, units_deeper, recursionLimit, cLine] at *); omega)) (by ((try simp only [Ar, depth_deeper, units_deeper, recursionLimit, cLine] at *); omega)) hpa hpl1 ?_)
    intro h4 tk4 b hk4 hb
    refine Classical.byContradiction fun hn9 => ?_
    obtain ⟨new, q1, q2, q3⟩ := grown (σ := Em) (imm := news1) (by k_asm : Fr g L' _ _) hk4
    (refine hn9 ?_; clear hn9)
    have hb := hb.mono q3
    have F4 := Fr.keeps (by k_asm : Fr g L' _ _) hk4
    have N4o := News.grown (by k_asm : News g L' _ ((I, oi) :: news1)) hk4
    have N4 : News g L' h4 ((I, oi) :: (new ++ news1)) := fun p hp => by
      rcases List.mem_cons.mp hp with rfl | hp
      · exact N4o _ (.head _)
      · rcases List.mem_append.mp hp with hp | hp
        · exact q1 p hp
        · exact N4o p (.tail _ hp)
    have hDI : h4.objs.size ≠ I := Nat.ne_of_gt (Heap.lt_size (N4 _ (.head _)).1)
    have off4 : ∀ p ∈ new ++ news1, p.1 ≠ I := off_new q2 (News.get (by k_asm) (by k_mem)) off
    have hus := hus.mono fun _ _ q => q.mono (hs_right (σ := Em) (new := new))
    have hl1T := hl1T.mono (hs_right (σ := Em) (new := new))
    have hsub : ∀ p ∈ imm, p ∈ new ++ news1 := fun p hp => List.mem_append_right _ (hsub p hp)
    refine Classical.byContradiction fun hn9 => ?_
    obtain ⟨ws, hws, hwall⟩ := hb
    (refine hn9 ?_; clear hn9)
    have hwl : ws.length ≤ 1000 := by rw [hwall.length, List.length_map]; exact hpl1
    clear q1 q2 q3 N4o hk4
    generalize new ++ news1 = news2 at *
    (try dsimp only)
    k_steps
    unfold Hold
    k_dflt (refine' add_lists ?F ?N ?l ?b ?_ ?z; (case F => k_asm); (case N => k_asm); (case l => exact isList_hs (by k_asm) (by k_asm) hem hl1T (by (intro p9 hp9; repeat (first | assumption | refine List.mem_cons_of_mem _ ?_)))); (case b => exact isList_hs (by k_asm) (by k_asm) hem hws (by (intro p9 hp9; repeat (first | assumption | refine List.mem_cons_of_mem _ ?_)))); (case z => ((try simp only [sizeLine_eq, List.length_append, List.length_cons, List.length_nil] at *); omega)))
    intro h5 F5 N5
    (try dsimp only)
    k_steps
    unfold Hold
    have hlen : (us.length : Int) = ((chain (ps.take i)).length : Int) := by rw [hus.length]
    exact (⟨_, _, _, (h4.objs.size, lstObj (us ++ ws) 0) :: news2, rfl, (by k_asm), news_sub (by k_asm : News g L' _ ((h4.objs.size, lstObj (us ++ ws) 0) :: (I, oi) :: news2)) (fun p hp => by
        rcases List.mem_cons.mp hp with rfl | hp
        · exact .tail _ (.head _)
        · rcases List.mem_cons.mp hp with rfl | hp
          · exact .head _
          · exact .tail _ (.tail _ hp)), List.forall_mem_cons.mpr ⟨hDI, off4⟩,
        ⟨_, rfl, us ++ ws, ⟨0, .inr (.head _)⟩, by
          rw [chain_step hops]
          exact (hus.mono fun _ _ q => q.mono (hs_more fun p hp => .tail _ hp)).append (by rw [← hlen]; exact hwall.mono fun _ _ q => q.mono (hs_more fun p hp => .tail _ hp))⟩,
        fun y a b => by simp only [if_neg a, if_neg b], fun p hp => .tail _ (hsub p hp)⟩ : ∃ h' tk' m₂ news₂, _ = ({ s with heap := h', toks := tk' } : Shared) ∧ Fr g L' h' m₂ ∧ News g L' h' ((I, oi) :: news₂) ∧ (∀ p ∈ news₂, p.1 ≠ I) ∧ (∃ l1, m₂ (Str.ofString "lines") = some (.ref l1) ∧ LinesAt (Hs Em news₂) l1 (chain (ps.take (i + 1)))) ∧ (∀ y, y ≠ Str.ofString "lines" → y ≠ Str.ofString "part" → m₂ y = List.lookup y [(Str.ofString "parts_here", Value.ref pl)].reverse) ∧ ∀ p ∈ imm, p ∈ news₂)
  case done =>
    intro h3 tk3 mX news1 F3 N3 hq6
    refine Classical.byContradiction fun hn9 => ?_
    obtain ⟨⟨l1, hm1, hl1⟩, hm2, hsub⟩ := hq6
    (refine hn9 ?_; clear hn9)
    have e : ps.take pvs.length = ps := by rw [hps.length]; simp
    rw [e] at hl1
    have em : mX = fun y => if y = Str.ofString "part" then mX (Str.ofString "part") else if y = Str.ofString "lines" then some (.ref l1) else List.lookup y [(Str.ofString "parts_here", Value.ref pl)].reverse := by
      funext y9
      by_cases e90 : y9 = Str.ofString "part"
      · rw [if_pos e90, e90]
      by_cases e91 : y9 = Str.ofString "lines"
      · rw [if_neg e90, if_pos e91, e91, hm1]
      rw [if_neg e90, if_neg e91]
      exact hm2 _ e91 e90
    clear hm1 hm2
    generalize mX (Str.ofString "part") = vp at em
    subst em
    (try dsimp only)
    k_steps
    exact hR _ _ _ (hide_stays' hg F3.keep N3 hsub fun p hp => (b3 p hp).1) (hl1.mono (hide_ext hg N3 hsub))
end
end
end Mine
end
local macro_rules | `(tactic| walk_at "U") => `(tactic| ((case U => walk_at "rm")))
section
open PySem PySem.W PyProof.Rows PySem.Calls
namespace Mine
local macro_rules | `(tactic| walk_at "call builtin:list.pop") => `(tactic| (tbr_iter (1, "list.pop"); k_dflt (refine' pop_L ?F ?N ?U ?z ?_; walk_at "FN"; (case U => k_upd); walk_at "zm"); walk_at "aN"))
local macro_rules | `(tactic| walk_at "compareOp NotEq ref ref") => `(tactic| (tbr_iter (3, CmpOp.NotEq); k_dflt (refine' neNilV ?l ?e ?u ?_; walk_at "el"; walk_at "u"; (first | rw [snoc_empty] | rw [nil_empty] | skip))))
local macro_rules | `(tactic| walk_at "call builtin:len") => `(tactic| (tbr_iter (1, "len"); k_dflt (refine' len_V ?l ?z ?_; (case l => first | walk_at "nl" | exact Fr.lst (by k_asm) (by assumption)); (case z => first | assumption | walk_at "ml"); intro t9 tk9)))
local macro_rules | `(tactic| walk_at "binaryOp Mult ref int") => `(tactic| (k_here; k_dflt (refine' mul_one ?F ?N ?l ?a ?b ?_; walk_at "FN"; (case l => k_mem); (case a => omega); (case b => omega); intro h' l' F' N' l1; (try k_lt l1))))
local macro_rules | `(tactic| walk_at "subscriptTail Name Constant ref int") => `(tactic| (k_here; k_dflt (refine' item_T ?t ?a ?b ?c ?d ?_; (case t => walk_at "it"); walk_at "cd")))
local macro_rules | `(tactic| walk_at "call builtin:max") => `(tactic| (k_here; (with_reducible show wpAny _ _ (call (Value.builtin "max") [Value.int _ _, Value.int _ _, Value.int _ _]) _ _ _); k_dflt (refine' max3_V ?h ?F ?N ?_; (case h => rfl); walk_at "FN"; intro h' tk' t' F' N')))
local macro_rules | `(tactic| walk_at "call builtin:max") => `(tactic| (k_here; (with_reducible show wpAny _ _ (call (Value.builtin "max") [Value.int _ _, Value.int _ _]) _ _ _); k_dflt (refine' max2_V ?h ?F ?N ?_; (case h => rfl); walk_at "FN"; intro h' tk' t' F' N')))
local macro_rules | `(tactic| walk_at "binaryOp Add ref ref") => `(tactic| (with_reducible refine hold ?_))
section
set_option maxRecDepth 100000
set_option maxHeartbeats 1000000
noncomputable def PoolAt (σ : Store) (v : Value) (x : List Op × Int) : Prop := ∃ t a k n, v = .ref t ∧ σ t (tupObj [.ref a, .int x.2 k] n) ∧ LinesAt σ a x.1
theorem PoolAt.mono {σ τ : Store} {v x} (h : Sub σ τ) (y : PoolAt σ v x) : PoolAt τ v x := let ⟨t, a, k, n, e, q, r⟩ := y; ⟨t, a, k, n, e, h _ _ q, r.mono h⟩
theorem chain_back {g h h4 : Heap} {L : Addr} {m : Str → Option Value} {ledger imm : List (Addr × Obj)} {b : Addr} {ops : List Op} (F : Fr g L h m) (N : News g L h ledger) (hk4 : h.StaysIn h4) (hb : LinesAt (Ext (Hs Em ledger) h h4) b ops) (hs : ∀ p ∈ imm, p ∈ ledger) :
    ∃ imm2, Fr g L h4 m ∧ News g L h4 imm2 ∧ (∀ p ∈ imm, p ∈ imm2) ∧ LinesAt (Hs Em imm2) b ops := by
  refine Classical.byContradiction fun hn9 => ?_
  obtain ⟨new, q1, q2, q3⟩ := grown (σ := Em) (imm := ledger) F hk4
  (refine hn9 ?_; clear hn9)
  exact ⟨new ++ ledger, F.keeps hk4, news_app q1 (N.grown hk4), fun p hp => List.mem_append_right _ (hs p hp), hb.mono q3⟩
theorem pool_end {g h h' : Heap} {L T a : Addr} {m : Str → Option Value} {news imm : List (Addr × Obj)} {d : Int} {k : Tok} {n : Nat} {ops : List Op} (hg : hideAll h (imm.map (·.1)) = g) (F : Fr g L h' m) (N : News g L h' news) (b3 : ∀ p ∈ imm, h.get? p.1 = some p.2) (ht : (T, tupObj [.ref a, .int d k] n) ∈ news) (hl : LinesAt (Hs Em news) a ops) (hs : ∀ p ∈ imm, p ∈ news) :
    h.StaysIn h' ∧ PoolAt (Ext (Hs Em imm) h h') (.ref T) (ops, d) := by
  have hx := hide_ext hg N hs
  exact ⟨hide_stays' hg F.keep N hs b3, T, a, k, n, rfl, hx _ _ (.inr ht), hl.mono hx⟩
local macro_rules | `(tactic| walk_at "call ref") => `(tactic| (with_reducible refine hold ?_))
local macro_rules | `(tactic| walk_at "call ref") => `(tactic| (tbr_iter (0, 174); k_dflt ((first | refine' wpAny_call (index_cons ?X ?T ?D ?U ?_) | refine' wpAny_call (index_eq ?X ?T ?D ?U ?_) | refine' wpAny_call (index_list ?X ?T ?D ?U ?_)); walk_at "XK"; walk_at "D"; walk_at "U"; walk_at "ret")))
section
variable {w : World} {s : Shared} {mg mb : Str → Option Value} {dp un : Nat} {fr : Option (List Env)} {gd : Option (List Code)} {R : Result → Shared → Prop}
theorem called_0 {h₀ : Heap} {L : Addr} {m : Str → Option Value} {imm : List (Addr × Obj)} (F₀ : Fr h₀ L s.heap m) (N₀ : News h₀ L s.heap imm) (X₀ : (kk.heap_1 w.params).In h₀) (T₀ : TopRead vw (looseW vw [Str.ofString "ROWS"]) mg mb h₀) {way1 : Tok} {one two three : Value} {o1 o2 o3 : List Op × Int} (hD : dp + 7 ≤ 400) (hU : un + 100 ≤ 5000) (h1 : PoolAt (Hs Em imm) one o1) (h2 : PoolAt (Hs Em imm) two o2) (h3 : PoolAt (Hs Em imm) three o3) (hz : (chain [o1.1, o2.1, [.cons]]).length ≤ 1000) (z1 : o1.1.length ≤ 1000) (z2 : o2.1.length ≤ 1000) (z3 : o3.1.length ≤ 1000) (hR : ∀ h' tk b, s.heap.StaysIn h' → PoolAt (Ext (Hs Em imm) s.heap h') b (chain [o1.1, o2.1, [.cons]], max o1.2 (1 + o2.2)) → R (.ok (.ret b)) { s with heap := h', toks := tk }) : codeAny (model PySem.Challenge.rw_rg0136_01.row.toRowW.prog w) (Ar dp un fr gd) (.call (.ref 371) ⟨[.int 0 way1, one, two, three], []⟩) R s := by
  refine Classical.byContradiction fun hn9 => ?_
  obtain ⟨b1, b2, b3⟩ := hide_base F₀ N₀
  (refine hn9 ?_; clear hn9)
  have X := X₀.keeps b1
  have T := T₀.keeps b1
  refine Classical.byContradiction fun hn9 => ?_
  obtain ⟨ta, aa, ka, na, rfl, hta, hla⟩ := h1
  (refine hn9 ?_; clear hn9)
  refine Classical.byContradiction fun hn9 => ?_
  obtain ⟨tb, ab, kb, nb, rfl, htb, hlb⟩ := h2
  (refine hn9 ?_; clear hn9)
  refine Classical.byContradiction fun hn9 => ?_
  obtain ⟨tc, ac, kc, nc, rfl, htc, hlc⟩ := h3
  (refine hn9 ?_; clear hn9)
  have hTa : Tup (Hs Em imm) ta [.ref aa, .int o1.2 ka] := ⟨na, hta⟩
  have hTb : Tup (Hs Em imm) tb [.ref ab, .int o2.2 kb] := ⟨nb, htb⟩
  have hTc : Tup (Hs Em imm) tc [.ref ac, .int o3.2 kc] := ⟨nc, htc⟩
  refine' enter2 (K := kk.heap_1 _) (binds := [(Str.ofString "way", .int 0 way1), (Str.ofString "one", .ref ta), (Str.ofString "two", .ref tb), (Str.ofString "three", .ref tc)]) (hideAll s.heap (imm.map (·.1))) imm ?k3 ?k5 ?kk ?kz ?kp ?k6 ?k7 ?k8 ?k9 ?kB ?_ ?c2 ?c3 ?c4 ?c5; (case k6 => k_is); (case k7 => k_is); (case k8 => ktr_room); (case k9 => exact BindsTo.of_eq rfl); (case c5 => decide); (case kB => exact locs rfl); (case c2 => exact rfl); (case c3 => exact rfl); (case c4 => exact rfl)
  case k3 => exact X
  case k5 => exact TopRead.nolimit (T.keeps b2)
  case kk => exact b2
  case kz => exact Nat.le_of_eq (hideAll_size _ _)
  case kp => exact b3
  intro L' h₁ F N
  (try dsimp only)
  generalize hg : hideAll s.heap (imm.map (·.1)) = g at *
  have hem : Sub Em (hSt g) := fun _ _ e => e.elim
  k_steps
  unfold Hold
  k_dflt (refine' wpAny_call (chained_ok (ps := [o1.1, o2.1, [.cons]]) ?F ?N ?X ?T ?D ?U ?pl ?ps ?z ?z1 ?_); (case F => k_asm); (case N => k_asm); (case X => exact X); (case T => exact T); (case D => ((try simp only [Ar, depth_deeper, units_deeper, recursionLimit, cLine] at *); omega)); (case U => ((try simp only [Ar, depth_deeper, units_deeper, recursionLimit, cLine] at *); omega)); (case pl => k_mem))
  case ps => exact .cons ⟨_, rfl, hla.mono (hs_more (by (intro p9 hp9; repeat (first | assumption | refine List.mem_cons_of_mem _ ?_))))⟩ (.cons ⟨_, rfl, hlb.mono (hs_more (by (intro p9 hp9; repeat (first | assumption | refine List.mem_cons_of_mem _ ?_))))⟩ (.cons ⟨_, rfl, _, ⟨_, .inr (by k_mem)⟩, .cons ⟨_, _, _, rfl, _, .inr (by k_mem)⟩ .nil⟩ .nil))
  case z => exact hz
  case z1 => simp only [List.forall_mem_cons]; exact ⟨z1, z2, by simp⟩
  intro h4 tk4 b hk4 hb
  obtain ⟨imm2, F4, N4, hs4, hb4⟩ := chain_back (imm := imm) (by k_asm) (by k_asm) hk4 hb (by (intro p9 hp9; repeat (first | assumption | refine List.mem_cons_of_mem _ ?_)))
  clear hk4 hb
  have hTa := hTa.mono (hs_more hs4)
  have hTb := hTb.mono (hs_more hs4)
  have hTc := hTc.mono (hs_more hs4)
  (try dsimp only)
  k_steps
  have hfin : s.heap.StaysIn _ ∧ PoolAt (Ext (Hs Em imm) s.heap _) (.ref _) (chain [o1.1, o2.1, [.cons]], max o1.2 (1 + o2.2)) :=
    pool_end hg (by k_asm) (by k_asm) (fun p hp => (b3 p hp).1) (by k_mem) (hb4.mono (hs_more (by (intro p9 hp9; repeat (first | assumption | refine List.mem_cons_of_mem _ ?_))))) (by (intro p9 hp9; have hp9 := hs4 p9 hp9; repeat (first | assumption | refine List.mem_cons_of_mem _ ?_)))
  exact hR _ _ _ hfin.1 hfin.2
theorem called_1 {h₀ : Heap} {L : Addr} {m : Str → Option Value} {imm : List (Addr × Obj)} (F₀ : Fr h₀ L s.heap m) (N₀ : News h₀ L s.heap imm) (X₀ : (kk.heap_1 w.params).In h₀) (T₀ : TopRead vw (looseW vw [Str.ofString "ROWS"]) mg mb h₀) {way1 : Tok} {one two three : Value} {o1 o2 o3 : List Op × Int} (hD : dp + 7 ≤ 400) (hU : un + 100 ≤ 5000) (h1 : PoolAt (Hs Em imm) one o1) (h2 : PoolAt (Hs Em imm) two o2) (h3 : PoolAt (Hs Em imm) three o3) (hz : (chain [o1.1, o2.1, o3.1, [.call]]).length ≤ 1000) (z1 : o1.1.length ≤ 1000) (z2 : o2.1.length ≤ 1000) (z3 : o3.1.length ≤ 1000) (hR : ∀ h' tk b, s.heap.StaysIn h' → PoolAt (Ext (Hs Em imm) s.heap h') b (chain [o1.1, o2.1, o3.1, [.call]], max (max o1.2 (1 + o2.2)) (2 + o3.2)) → R (.ok (.ret b)) { s with heap := h', toks := tk }) : codeAny (model PySem.Challenge.rw_rg0136_01.row.toRowW.prog w) (Ar dp un fr gd) (.call (.ref 371) ⟨[.int 1 way1, one, two, three], []⟩) R s := by
  refine Classical.byContradiction fun hn9 => ?_
  obtain ⟨b1, b2, b3⟩ := hide_base F₀ N₀
  (refine hn9 ?_; clear hn9)
  have X := X₀.keeps b1
  have T := T₀.keeps b1
  refine Classical.byContradiction fun hn9 => ?_
  obtain ⟨ta, aa, ka, na, rfl, hta, hla⟩ := h1
  (refine hn9 ?_; clear hn9)
  refine Classical.byContradiction fun hn9 => ?_
  obtain ⟨tb, ab, kb, nb, rfl, htb, hlb⟩ := h2
  (refine hn9 ?_; clear hn9)
  refine Classical.byContradiction fun hn9 => ?_
  obtain ⟨tc, ac, kc, nc, rfl, htc, hlc⟩ := h3
  (refine hn9 ?_; clear hn9)
  have hTa : Tup (Hs Em imm) ta [.ref aa, .int o1.2 ka] := ⟨na, hta⟩
  have hTb : Tup (Hs Em imm) tb [.ref ab, .int o2.2 kb] := ⟨nb, htb⟩
  have hTc : Tup (Hs Em imm) tc [.ref ac, .int o3.2 kc] := ⟨nc, htc⟩
  refine' enter2 (K := kk.heap_1 _) (binds := [(Str.ofString "way", .int 1 way1), (Str.ofString "one", .ref ta), (Str.ofString "two", .ref tb), (Str.ofString "three", .ref tc)]) (hideAll s.heap (imm.map (·.1))) imm ?k3 ?k5 ?kk ?kz ?kp ?k6 ?k7 ?k8 ?k9 ?kB ?_ ?c2 ?c3 ?c4 ?c5; (case k6 => k_is); (case k7 => k_is); (case k8 => ktr_room); (case k9 => exact BindsTo.of_eq rfl); (case c5 => decide); (case kB => exact locs rfl); (case c2 => exact rfl); (case c3 => exact rfl); (case c4 => exact rfl)
  case k3 => exact X
  case k5 => exact TopRead.nolimit (T.keeps b2)
  case kk => exact b2
  case kz => exact Nat.le_of_eq (hideAll_size _ _)
  case kp => exact b3
  intro L' h₁ F N
  (try dsimp only)
  generalize hg : hideAll s.heap (imm.map (·.1)) = g at *
  have hem : Sub Em (hSt g) := fun _ _ e => e.elim
  k_steps
  unfold Hold
  k_dflt (refine' wpAny_call (chained_ok (ps := [o1.1, o2.1, o3.1, [.call]]) ?F ?N ?X ?T ?D ?U ?pl ?ps ?z ?z1 ?_); (case F => k_asm); (case N => k_asm); (case X => exact X); (case T => exact T); (case D => ((try simp only [Ar, depth_deeper, units_deeper, recursionLimit, cLine] at *); omega)); (case U => ((try simp only [Ar, depth_deeper, units_deeper, recursionLimit, cLine] at *); omega)); (case pl => k_mem))
  case ps => exact .cons ⟨_, rfl, hla.mono (hs_more (by (intro p9 hp9; repeat (first | assumption | refine List.mem_cons_of_mem _ ?_))))⟩ (.cons ⟨_, rfl, hlb.mono (hs_more (by (intro p9 hp9; repeat (first | assumption | refine List.mem_cons_of_mem _ ?_))))⟩ (.cons ⟨_, rfl, hlc.mono (hs_more (by (intro p9 hp9; repeat (first | assumption | refine List.mem_cons_of_mem _ ?_))))⟩ (.cons ⟨_, rfl, _, ⟨_, .inr (by k_mem)⟩, .cons ⟨_, _, _, rfl, _, .inr (by k_mem)⟩ .nil⟩ .nil)))
  case z => exact hz
  case z1 => simp only [List.forall_mem_cons]; exact ⟨z1, z2, z3, by simp⟩
  intro h4 tk4 b hk4 hb
  obtain ⟨imm2, F4, N4, hs4, hb4⟩ := chain_back (imm := imm) (by k_asm) (by k_asm) hk4 hb (by (intro p9 hp9; repeat (first | assumption | refine List.mem_cons_of_mem _ ?_)))
  clear hk4 hb
  have hTa := hTa.mono (hs_more hs4)
  have hTb := hTb.mono (hs_more hs4)
  have hTc := hTc.mono (hs_more hs4)
  (try dsimp only)
  k_steps
  have hfin : s.heap.StaysIn _ ∧ PoolAt (Ext (Hs Em imm) s.heap _) (.ref _) (chain [o1.1, o2.1, o3.1, [.call]], max (max o1.2 (1 + o2.2)) (2 + o3.2)) :=
    pool_end hg (by k_asm) (by k_asm) (fun p hp => (b3 p hp).1) (by k_mem) (hb4.mono (hs_more (by (intro p9 hp9; repeat (first | assumption | refine List.mem_cons_of_mem _ ?_))))) (by (intro p9 hp9; have hp9 := hs4 p9 hp9; repeat (first | assumption | refine List.mem_cons_of_mem _ ?_)))
  exact hR _ _ _ hfin.1 hfin.2
theorem called_3 {h₀ : Heap} {L : Addr} {m : Str → Option Value} {imm : List (Addr × Obj)} (F₀ : Fr h₀ L s.heap m) (N₀ : News h₀ L s.heap imm) (X₀ : (kk.heap_1 w.params).In h₀) (T₀ : TopRead vw (looseW vw [Str.ofString "ROWS"]) mg mb h₀) {way1 : Tok} {one two three : Value} {o1 o2 o3 : List Op × Int} (hD : dp + 7 ≤ 400) (hU : un + 100 ≤ 5000) (h1 : PoolAt (Hs Em imm) one o1) (h2 : PoolAt (Hs Em imm) two o2) (h3 : PoolAt (Hs Em imm) three o3) (hz : (chain [o1.1, o2.1, [.stackref, .list3]]).length ≤ 1000) (z1 : o1.1.length ≤ 1000) (z2 : o2.1.length ≤ 1000) (z3 : o3.1.length ≤ 1000) (hR : ∀ h' tk b, s.heap.StaysIn h' → PoolAt (Ext (Hs Em imm) s.heap h') b (chain [o1.1, o2.1, [.stackref, .list3]], max (max o1.2 (1 + o2.2)) 3) → R (.ok (.ret b)) { s with heap := h', toks := tk }) : codeAny (model PySem.Challenge.rw_rg0136_01.row.toRowW.prog w) (Ar dp un fr gd) (.call (.ref 371) ⟨[.int 3 way1, one, two, three], []⟩) R s := by
  refine Classical.byContradiction fun hn9 => ?_
  obtain ⟨b1, b2, b3⟩ := hide_base F₀ N₀
  (refine hn9 ?_; clear hn9)
  have X := X₀.keeps b1
  have T := T₀.keeps b1
  refine Classical.byContradiction fun hn9 => ?_
  obtain ⟨ta, aa, ka, na, rfl, hta, hla⟩ := h1
  (refine hn9 ?_; clear hn9)
  refine Classical.byContradiction fun hn9 => ?_
  obtain ⟨tb, ab, kb, nb, rfl, htb, hlb⟩ := h2
  (refine hn9 ?_; clear hn9)
  refine Classical.byContradiction fun hn9 => ?_
  obtain ⟨tc, ac, kc, nc, rfl, htc, hlc⟩ := h3
  (refine hn9 ?_; clear hn9)
  have hTa : Tup (Hs Em imm) ta [.ref aa, .int o1.2 ka] := ⟨na, hta⟩
  have hTb : Tup (Hs Em imm) tb [.ref ab, .int o2.2 kb] := ⟨nb, htb⟩
  have hTc : Tup (Hs Em imm) tc [.ref ac, .int o3.2 kc] := ⟨nc, htc⟩
  refine' enter2 (K := kk.heap_1 _) (binds := [(Str.ofString "way", .int 3 way1), (Str.ofString "one", .ref ta), (Str.ofString "two", .ref tb), (Str.ofString "three", .ref tc)]) (hideAll s.heap (imm.map (·.1))) imm ?k3 ?k5 ?kk ?kz ?kp ?k6 ?k7 ?k8 ?k9 ?kB ?_ ?c2 ?c3 ?c4 ?c5; (case k6 => k_is); (case k7 => k_is); (case k8 => ktr_room); (case k9 => exact BindsTo.of_eq rfl); (case c5 => decide); (case kB => exact locs rfl); (case c2 => exact rfl); (case c3 => exact rfl); (case c4 => exact rfl)
  case k3 => exact X
  case k5 => exact TopRead.nolimit (T.keeps b2)
  case kk => exact b2
  case kz => exact Nat.le_of_eq (hideAll_size _ _)
  case kp => exact b3
  intro L' h₁ F N
  (try dsimp only)
  generalize hg : hideAll s.heap (imm.map (·.1)) = g at *
  have hem : Sub Em (hSt g) := fun _ _ e => e.elim
  k_steps
  unfold Hold
  k_dflt (refine' wpAny_call (chained_ok (ps := [o1.1, o2.1, [.stackref, .list3]]) ?F ?N ?X ?T ?D ?U ?pl ?ps ?z ?z1 ?_); (case F => k_asm); (case N => k_asm); (case X => exact X); (case T => exact T); (case D => ((try simp only [Ar, depth_deeper, units_deeper, recursionLimit, cLine] at *); omega)); (case U => ((try simp only [Ar, depth_deeper, units_deeper, recursionLimit, cLine] at *); omega)); (case pl => k_mem))
  case ps => exact .cons ⟨_, rfl, hla.mono (hs_more (by (intro p9 hp9; repeat (first | assumption | refine List.mem_cons_of_mem _ ?_))))⟩ (.cons ⟨_, rfl, hlb.mono (hs_more (by (intro p9 hp9; repeat (first | assumption | refine List.mem_cons_of_mem _ ?_))))⟩ (.cons ⟨_, rfl, _, ⟨_, .inr (by k_mem)⟩, .cons ⟨_, _, _, rfl, _, .inr (by k_mem)⟩ (.cons ⟨_, _, _, rfl, _, .inr (by k_mem)⟩ .nil)⟩ .nil))
  case z => exact hz
  case z1 => simp only [List.forall_mem_cons]; exact ⟨z1, z2, by simp⟩
  intro h4 tk4 b hk4 hb
  obtain ⟨imm2, F4, N4, hs4, hb4⟩ := chain_back (imm := imm) (by k_asm) (by k_asm) hk4 hb (by (intro p9 hp9; repeat (first | assumption | refine List.mem_cons_of_mem _ ?_)))
  clear hk4 hb
  have hTa := hTa.mono (hs_more hs4)
  have hTb := hTb.mono (hs_more hs4)
  have hTc := hTc.mono (hs_more hs4)
  (try dsimp only)
  k_steps
  have hfin : s.heap.StaysIn _ ∧ PoolAt (Ext (Hs Em imm) s.heap _) (.ref _) (chain [o1.1, o2.1, [.stackref, .list3]], max (max o1.2 (1 + o2.2)) 3) :=
    pool_end hg (by k_asm) (by k_asm) (fun p hp => (b3 p hp).1) (by k_mem) (hb4.mono (hs_more (by (intro p9 hp9; repeat (first | assumption | refine List.mem_cons_of_mem _ ?_))))) (by (intro p9 hp9; have hp9 := hs4 p9 hp9; repeat (first | assumption | refine List.mem_cons_of_mem _ ?_)))
  exact hR _ _ _ hfin.1 hfin.2
theorem called_2 {h₀ : Heap} {L : Addr} {m : Str → Option Value} {imm : List (Addr × Obj)} (F₀ : Fr h₀ L s.heap m) (N₀ : News h₀ L s.heap imm) (X₀ : (kk.heap_1 w.params).In h₀) (T₀ : TopRead vw (looseW vw [Str.ofString "ROWS"]) mg mb h₀) {way1 : Tok} {one two three : Value} {o1 o2 o3 : List Op × Int} (hD : dp + 7 ≤ 400) (hU : un + 100 ≤ 5000) (h1 : PoolAt (Hs Em imm) one o1) (h2 : PoolAt (Hs Em imm) two o2) (h3 : PoolAt (Hs Em imm) three o3) (hz : (o1.1 ++ [Op.dup, Op.eq]).length ≤ 1000) (z1 : o1.1.length ≤ 1000) (z2 : o2.1.length ≤ 1000) (z3 : o3.1.length ≤ 1000) (hR : ∀ h' tk b, s.heap.StaysIn h' → PoolAt (Ext (Hs Em imm) s.heap h') b (o1.1 ++ [Op.dup, Op.eq], max o1.2 2) → R (.ok (.ret b)) { s with heap := h', toks := tk }) : codeAny (model PySem.Challenge.rw_rg0136_01.row.toRowW.prog w) (Ar dp un fr gd) (.call (.ref 371) ⟨[.int 2 way1, one, two, three], []⟩) R s := by
  refine Classical.byContradiction fun hn9 => ?_
  obtain ⟨b1, b2, b3⟩ := hide_base F₀ N₀
  (refine hn9 ?_; clear hn9)
  have X := X₀.keeps b1
  have T := T₀.keeps b1
  refine Classical.byContradiction fun hn9 => ?_
  obtain ⟨ta, aa, ka, na, rfl, hta, hla⟩ := h1
  (refine hn9 ?_; clear hn9)
  refine Classical.byContradiction fun hn9 => ?_
  obtain ⟨tb, ab, kb, nb, rfl, htb, hlb⟩ := h2
  (refine hn9 ?_; clear hn9)
  refine Classical.byContradiction fun hn9 => ?_
  obtain ⟨tc, ac, kc, nc, rfl, htc, hlc⟩ := h3
  (refine hn9 ?_; clear hn9)
  have hTa : Tup (Hs Em imm) ta [.ref aa, .int o1.2 ka] := ⟨na, hta⟩
  have hTb : Tup (Hs Em imm) tb [.ref ab, .int o2.2 kb] := ⟨nb, htb⟩
  have hTc : Tup (Hs Em imm) tc [.ref ac, .int o3.2 kc] := ⟨nc, htc⟩
  refine' enter2 (K := kk.heap_1 _) (binds := [(Str.ofString "way", .int 2 way1), (Str.ofString "one", .ref ta), (Str.ofString "two", .ref tb), (Str.ofString "three", .ref tc)]) (hideAll s.heap (imm.map (·.1))) imm ?k3 ?k5 ?kk ?kz ?kp ?k6 ?k7 ?k8 ?k9 ?kB ?_ ?c2 ?c3 ?c4 ?c5; (case k6 => k_is); (case k7 => k_is); (case k8 => ktr_room); (case k9 => exact BindsTo.of_eq rfl); (case c5 => decide); (case kB => exact locs rfl); (case c2 => exact rfl); (case c3 => exact rfl); (case c4 => exact rfl)
  case k3 => exact X
  case k5 => exact TopRead.nolimit (T.keeps b2)
  case kk => exact b2
  case kz => exact Nat.le_of_eq (hideAll_size _ _)
  case kp => exact b3
  intro L' h₁ F N
  (try dsimp only)
  generalize hg : hideAll s.heap (imm.map (·.1)) = g at *
  have hem : Sub Em (hSt g) := fun _ _ e => e.elim
  k_steps
  unfold Hold
  refine Classical.byContradiction fun hn9 => ?_
  obtain ⟨va, hva, hvA⟩ := hla
  (refine hn9 ?_; clear hn9)
  have hvl : va.length ≤ 1000 := by rw [hvA.length]; exact z1
  k_dflt (refine' add_lists ?F ?N ?l ?b ?_ ?z; (case F => k_asm); (case N => k_asm); (case l => exact isList_hs (by k_asm) (by k_asm) hem hva (by (intro p9 hp9; repeat (first | assumption | refine List.mem_cons_of_mem _ ?_)))); (case b => exact News.isList (by k_asm) (by k_mem)); (case z => ((try simp only [sizeLine_eq, List.length_append, List.length_cons, List.length_nil] at *); omega)))
  intro h5 F5 N5
  (try dsimp only)
  k_steps
  have hfin : s.heap.StaysIn _ ∧ PoolAt (Ext (Hs Em imm) s.heap _) (.ref _) (o1.1 ++ [Op.dup, Op.eq], max o1.2 2) :=
    pool_end hg (by k_asm) (by k_asm) (fun p hp => (b3 p hp).1) (by k_mem) ⟨_, ⟨_, .inr (by k_mem)⟩, (hvA.mono fun _ _ q => q.mono (hs_more (by (intro p9 hp9; repeat (first | assumption | refine List.mem_cons_of_mem _ ?_))))).append (.cons ⟨_, _, _, rfl, _, .inr (by k_mem)⟩ (.cons ⟨_, _, _, rfl, _, .inr (by k_mem)⟩ .nil))⟩ (by (intro p9 hp9; repeat (first | assumption | refine List.mem_cons_of_mem _ ?_)))
  exact hR _ _ _ hfin.1 hfin.2
end
end
section
local macro_rules | `(tactic| walk_at "nowhere 0") => `(tactic| skip)
set_option maxRecDepth 100000
set_option maxHeartbeats 1000000
theorem add_LL {prog : Program} {w : World} {A : Around} {E : Value → Shared → Prop} {s : Shared} {Q : Value → Shared → Prop} {g : Heap} {L a b : Addr} {m : Str → Option Value} {ledger : List (Addr × Obj)} {xs ys : List Op} (F : Fr g L s.heap m) (N : News g L s.heap ledger) (ha : LinesAt (Hs Em ledger) a xs) (hb : LinesAt (Hs Em ledger) b ys) (hz : xs.length + ys.length ≤ 5000)
    (h : ∀ h' D imm2, Fr g L h' m → News g L h' imm2 → (∀ p ∈ ledger, p ∈ imm2) → LinesAt (Hs Em imm2) D (xs ++ ys) → Q (.ref D) { s with heap := h' }) : wpAny (model prog w) A (binaryOp .Add (.ref a) (.ref b)) Q E s := by
  refine Classical.byContradiction fun hn9 => ?_
  obtain ⟨us, hu, hua⟩ := ha
  (refine hn9 ?_; clear hn9)
  refine Classical.byContradiction fun hn9 => ?_
  obtain ⟨ws, hw, hwa⟩ := hb
  (refine hn9 ?_; clear hn9)
  have hem : Sub Em (hSt g) := fun _ _ e => e.elim
  have h1 := hua.length
  have h2 := hwa.length
  refine add_lists F N (isList_hs F N hem hu fun _ h => h) (isList_hs F N hem hw fun _ h => h) (fun h' F' N' => h h' _ _ F' N' (fun p hp => .tail _ hp) ⟨us ++ ws, ⟨0, .inr (.head _)⟩, (hua.mono fun _ _ q => q.mono (hs_more fun p hp => .tail _ hp)).append (hwa.mono fun _ _ q => q.mono (hs_more fun p hp => .tail _ hp))⟩) (by rw [sizeLine_eq]; omega)
local macro_rules | `(tactic| walk_at "call ref") => `(tactic| (with_reducible refine hold ?_))
local macro_rules | `(tactic| walk_at "call builtin:len") => `(tactic| (tbr_iter (1, "len"); k_dflt (refine' len_V ?l ?z ?_; (case l => walk_at "lt"); (case z => first | assumption | walk_at "ml"); intro t9 tk9)))
section
variable {w : World} {s : Shared} {mg mb : Str → Option Value} {dp un : Nat} {fr : Option (List Env)} {gd : Option (List Code)} {R : Result → Shared → Prop}
theorem joined_0 {h₀ : Heap} {L : Addr} {m : Str → Option Value} {imm : List (Addr × Obj)} (F₀ : Fr h₀ L s.heap m) (N₀ : News h₀ L s.heap imm) (X₀ : (kk.heap_1 w.params).In h₀) (T₀ : TopRead vw (looseW vw [Str.ofString "ROWS"]) mg mb h₀) {way1 : Tok} {one two three : Value} {o1 o2 o3 : List Op × Int} (hD : dp + 9 ≤ 400) (hU : un + 120 ≤ 5000) (h1 : PoolAt (Hs Em imm) one o1) (h2 : PoolAt (Hs Em imm) two o2) (h3 : PoolAt (Hs Em imm) three o3) (hz : (chain [o1.1, [.discard], o2.1]).length ≤ 1000) (z1 : o1.1.length ≤ 1000) (z2 : o2.1.length ≤ 1000) (z3 : o3.1.length ≤ 1000) (hR : ∀ h' tk b, s.heap.StaysIn h' → PoolAt (Ext (Hs Em imm) s.heap h') b (chain [o1.1, [.discard], o2.1], max o1.2 o2.2) → R (.ok (.ret b)) { s with heap := h', toks := tk }) : codeAny (model PySem.Challenge.rw_rg0136_01.row.toRowW.prog w) (Ar dp un fr gd) (.call (.ref 378) ⟨[.int 0 way1, one, two, three], []⟩) R s := by
  refine Classical.byContradiction fun hn9 => ?_
  obtain ⟨b1, b2, b3⟩ := hide_base F₀ N₀
  (refine hn9 ?_; clear hn9)
  have X := X₀.keeps b1
  have T := T₀.keeps b1
  refine Classical.byContradiction fun hn9 => ?_
  obtain ⟨ta, aa, ka, na, rfl, hta, hla⟩ := h1
  (refine hn9 ?_; clear hn9)
  refine Classical.byContradiction fun hn9 => ?_
  obtain ⟨tb, ab, kb, nb, rfl, htb, hlb⟩ := h2
  (refine hn9 ?_; clear hn9)
  refine Classical.byContradiction fun hn9 => ?_
  obtain ⟨tc, ac, kc, nc, rfl, htc, hlc⟩ := h3
  (refine hn9 ?_; clear hn9)
  have hTa : Tup (Hs Em imm) ta [.ref aa, .int o1.2 ka] := ⟨na, hta⟩
  have hTb : Tup (Hs Em imm) tb [.ref ab, .int o2.2 kb] := ⟨nb, htb⟩
  have hTc : Tup (Hs Em imm) tc [.ref ac, .int o3.2 kc] := ⟨nc, htc⟩
  have hLa : ∃ vs : List Value, Lst (Hs Em imm) aa vs ∧ vs.length = o1.1.length := let ⟨vs, x, y⟩ := hla; ⟨vs, x, y.length⟩
  have hLb : ∃ vs : List Value, Lst (Hs Em imm) ab vs ∧ vs.length = o2.1.length := let ⟨vs, x, y⟩ := hlb; ⟨vs, x, y.length⟩
  have hLc : ∃ vs : List Value, Lst (Hs Em imm) ac vs ∧ vs.length = o3.1.length := let ⟨vs, x, y⟩ := hlc; ⟨vs, x, y.length⟩
  refine Classical.byContradiction fun hn9 => ?_
  obtain ⟨va, hLa, hva⟩ := hLa
  (refine hn9 ?_; clear hn9)
  refine Classical.byContradiction fun hn9 => ?_
  obtain ⟨vb, hLb, hvb⟩ := hLb
  (refine hn9 ?_; clear hn9)
  refine Classical.byContradiction fun hn9 => ?_
  obtain ⟨vc, hLc, hvc⟩ := hLc
  (refine hn9 ?_; clear hn9)
  refine' enter2 (K := kk.heap_1 _) (binds := [(Str.ofString "way", .int 0 way1), (Str.ofString "one", .ref ta), (Str.ofString "two", .ref tb), (Str.ofString "three", .ref tc)]) (hideAll s.heap (imm.map (·.1))) imm ?k3 ?k5 ?kk ?kz ?kp ?k6 ?k7 ?k8 ?k9 ?kB ?_ ?c2 ?c3 ?c4 ?c5; (case k6 => k_is); (case k7 => k_is); (case k8 => ktr_room); (case k9 => exact BindsTo.of_eq rfl); (case c5 => decide); (case kB => exact locs rfl); (case c2 => exact rfl); (case c3 => exact rfl); (case c4 => exact rfl)
  case k3 => exact X
  case k5 => exact TopRead.nolimit (T.keeps b2)
  case kk => exact b2
  case kz => exact Nat.le_of_eq (hideAll_size _ _)
  case kp => exact b3
  intro L' h₁ F N
  (try dsimp only)
  generalize hg : hideAll s.heap (imm.map (·.1)) = g at *
  have hem : Sub Em (hSt g) := fun _ _ e => e.elim
  k_steps
  unfold Hold
  k_dflt (refine' wpAny_call (chained_ok (ps := [o1.1, [.discard], o2.1]) ?F ?N ?X ?T ?D ?U ?pl ?ps ?z ?z1 ?_); (case F => k_asm); (case N => k_asm); (case X => exact X); (case T => exact T); (case D => ((try simp only [Ar, depth_deeper, units_deeper, recursionLimit, cLine] at *); omega)); (case U => ((try simp only [Ar, depth_deeper, units_deeper, recursionLimit, cLine] at *); omega)); (case pl => k_mem))
  case ps => exact .cons ⟨_, rfl, hla.mono (hs_more (by (intro p9 hp9; repeat (first | assumption | refine List.mem_cons_of_mem _ ?_))))⟩ (.cons ⟨_, rfl, _, ⟨_, .inr (by k_mem)⟩, .cons ⟨_, _, _, rfl, _, .inr (by k_mem)⟩ .nil⟩ (.cons ⟨_, rfl, hlb.mono (hs_more (by (intro p9 hp9; repeat (first | assumption | refine List.mem_cons_of_mem _ ?_))))⟩ .nil))
  case z => exact hz
  case z1 => simp only [List.forall_mem_cons]; exact ⟨z1, by simp, z2, by simp⟩
  intro h4 tk4 b hk4 hb
  obtain ⟨imm2, F4, N4, hs4, hb4⟩ := chain_back (imm := imm) (by k_asm) (by k_asm) hk4 hb (by (intro p9 hp9; repeat (first | assumption | refine List.mem_cons_of_mem _ ?_)))
  clear hk4 hb
  have hTa := hTa.mono (hs_more hs4)
  have hTb := hTb.mono (hs_more hs4)
  have hTc := hTc.mono (hs_more hs4)
  (try dsimp only)
  k_steps
  have hfin : s.heap.StaysIn _ ∧ PoolAt (Ext (Hs Em imm) s.heap _) (.ref _) (chain [o1.1, [.discard], o2.1], max o1.2 o2.2) :=
    pool_end hg (by k_asm) (by k_asm) (fun p hp => (b3 p hp).1) (by k_mem) (hb4.mono (hs_more (by (intro p9 hp9; repeat (first | assumption | refine List.mem_cons_of_mem _ ?_))))) (by (intro p9 hp9; have hp9 := hs4 p9 hp9; repeat (first | assumption | refine List.mem_cons_of_mem _ ?_)))
  exact hR _ _ _ hfin.1 hfin.2
theorem joined_4 {h₀ : Heap} {L : Addr} {m : Str → Option Value} {imm : List (Addr × Obj)} (F₀ : Fr h₀ L s.heap m) (N₀ : News h₀ L s.heap imm) (X₀ : (kk.heap_1 w.params).In h₀) (T₀ : TopRead vw (looseW vw [Str.ofString "ROWS"]) mg mb h₀) {way1 : Tok} {one two three : Value} {o1 o2 o3 : List Op × Int} (hD : dp + 9 ≤ 400) (hU : un + 120 ≤ 5000) (h1 : PoolAt (Hs Em imm) one o1) (h2 : PoolAt (Hs Em imm) two o2) (h3 : PoolAt (Hs Em imm) three o3) (hz : (chain [o1.1, [.varbind], o2.1, [.unbind]]).length ≤ 1000) (z1 : o1.1.length ≤ 1000) (z2 : o2.1.length ≤ 1000) (z3 : o3.1.length ≤ 1000) (hR : ∀ h' tk b, s.heap.StaysIn h' → PoolAt (Ext (Hs Em imm) s.heap h') b (chain [o1.1, [.varbind], o2.1, [.unbind]], max o1.2 o2.2) → R (.ok (.ret b)) { s with heap := h', toks := tk }) : codeAny (model PySem.Challenge.rw_rg0136_01.row.toRowW.prog w) (Ar dp un fr gd) (.call (.ref 378) ⟨[.int 4 way1, one, two, three], []⟩) R s := by
  refine Classical.byContradiction fun hn9 => ?_
  obtain ⟨b1, b2, b3⟩ := hide_base F₀ N₀
  (refine hn9 ?_; clear hn9)
  have X := X₀.keeps b1
  have T := T₀.keeps b1
  refine Classical.byContradiction fun hn9 => ?_
  obtain ⟨ta, aa, ka, na, rfl, hta, hla⟩ := h1
  (refine hn9 ?_; clear hn9)
  refine Classical.byContradiction fun hn9 => ?_
  obtain ⟨tb, ab, kb, nb, rfl, htb, hlb⟩ := h2
  (refine hn9 ?_; clear hn9)
  refine Classical.byContradiction fun hn9 => ?_
  obtain ⟨tc, ac, kc, nc, rfl, htc, hlc⟩ := h3
  (refine hn9 ?_; clear hn9)
  have hTa : Tup (Hs Em imm) ta [.ref aa, .int o1.2 ka] := ⟨na, hta⟩
  have hTb : Tup (Hs Em imm) tb [.ref ab, .int o2.2 kb] := ⟨nb, htb⟩
  have hTc : Tup (Hs Em imm) tc [.ref ac, .int o3.2 kc] := ⟨nc, htc⟩
  have hLa : ∃ vs : List Value, Lst (Hs Em imm) aa vs ∧ vs.length = o1.1.length := let ⟨vs, x, y⟩ := hla; ⟨vs, x, y.length⟩
  have hLb : ∃ vs : List Value, Lst (Hs Em imm) ab vs ∧ vs.length = o2.1.length := let ⟨vs, x, y⟩ := hlb; ⟨vs, x, y.length⟩
  have hLc : ∃ vs : List Value, Lst (Hs Em imm) ac vs ∧ vs.length = o3.1.length := let ⟨vs, x, y⟩ := hlc; ⟨vs, x, y.length⟩
  refine Classical.byContradiction fun hn9 => ?_
  obtain ⟨va, hLa, hva⟩ := hLa
  (refine hn9 ?_; clear hn9)
  refine Classical.byContradiction fun hn9 => ?_
  obtain ⟨vb, hLb, hvb⟩ := hLb
  (refine hn9 ?_; clear hn9)
  refine Classical.byContradiction fun hn9 => ?_
  obtain ⟨vc, hLc, hvc⟩ := hLc
  (refine hn9 ?_; clear hn9)
  refine' enter2 (K := kk.heap_1 _) (binds := [(Str.ofString "way", .int 4 way1), (Str.ofString "one", .ref ta), (Str.ofString "two", .ref tb), (Str.ofString "three", .ref tc)]) (hideAll s.heap (imm.map (·.1))) imm ?k3 ?k5 ?kk ?kz ?kp ?k6 ?k7 ?k8 ?k9 ?kB ?_ ?c2 ?c3 ?c4 ?c5; (case k6 => k_is); (case k7 => k_is); (case k8 => ktr_room); (case k9 => exact BindsTo.of_eq rfl); (case c5 => decide); (case kB => exact locs rfl); (case c2 => exact rfl); (case c3 => exact rfl); (case c4 => exact rfl)
  case k3 => exact X
  case k5 => exact TopRead.nolimit (T.keeps b2)
  case kk => exact b2
  case kz => exact Nat.le_of_eq (hideAll_size _ _)
  case kp => exact b3
  intro L' h₁ F N
  (try dsimp only)
  generalize hg : hideAll s.heap (imm.map (·.1)) = g at *
  have hem : Sub Em (hSt g) := fun _ _ e => e.elim
  k_steps
  unfold Hold
  k_dflt (refine' wpAny_call (chained_ok (ps := [o1.1, [.varbind], o2.1, [.unbind]]) ?F ?N ?X ?T ?D ?U ?pl ?ps ?z ?z1 ?_); (case F => k_asm); (case N => k_asm); (case X => exact X); (case T => exact T); (case D => ((try simp only [Ar, depth_deeper, units_deeper, recursionLimit, cLine] at *); omega)); (case U => ((try simp only [Ar, depth_deeper, units_deeper, recursionLimit, cLine] at *); omega)); (case pl => k_mem))
  case ps => exact .cons ⟨_, rfl, hla.mono (hs_more (by (intro p9 hp9; repeat (first | assumption | refine List.mem_cons_of_mem _ ?_))))⟩ (.cons ⟨_, rfl, _, ⟨_, .inr (by k_mem)⟩, .cons ⟨_, _, _, rfl, _, .inr (by k_mem)⟩ .nil⟩ (.cons ⟨_, rfl, hlb.mono (hs_more (by (intro p9 hp9; repeat (first | assumption | refine List.mem_cons_of_mem _ ?_))))⟩ (.cons ⟨_, rfl, _, ⟨_, .inr (by k_mem)⟩, .cons ⟨_, _, _, rfl, _, .inr (by k_mem)⟩ .nil⟩ .nil)))
  case z => exact hz
  case z1 => simp only [List.forall_mem_cons]; exact ⟨z1, by simp, z2, by simp⟩
  intro h4 tk4 b hk4 hb
  obtain ⟨imm2, F4, N4, hs4, hb4⟩ := chain_back (imm := imm) (by k_asm) (by k_asm) hk4 hb (by (intro p9 hp9; repeat (first | assumption | refine List.mem_cons_of_mem _ ?_)))
  clear hk4 hb
  have hTa := hTa.mono (hs_more hs4)
  have hTb := hTb.mono (hs_more hs4)
  have hTc := hTc.mono (hs_more hs4)
  (try dsimp only)
  k_steps
  have hfin : s.heap.StaysIn _ ∧ PoolAt (Ext (Hs Em imm) s.heap _) (.ref _) (chain [o1.1, [.varbind], o2.1, [.unbind]], max o1.2 o2.2) :=
    pool_end hg (by k_asm) (by k_asm) (fun p hp => (b3 p hp).1) (by k_mem) (hb4.mono (hs_more (by (intro p9 hp9; repeat (first | assumption | refine List.mem_cons_of_mem _ ?_))))) (by (intro p9 hp9; have hp9 := hs4 p9 hp9; repeat (first | assumption | refine List.mem_cons_of_mem _ ?_)))
  exact hR _ _ _ hfin.1 hfin.2
end
end
section
set_option maxRecDepth 100000
set_option maxHeartbeats 1000000
theorem ext_back {σ : Store} {h h1 h4 : Heap} (k : h.StaysIn h1) : Sub (Ext σ h1 h4) (Ext σ h h4) := fun a o e => by
  rcases e with e | ⟨q1, q2⟩
  · exact .inl e
  · refine .inr ⟨?_, q2⟩
    cases r : h.get? a with
    | none => rfl
    | some o' => rw [k _ _ r] at q1; cases q1
local macro_rules | `(tactic| walk_at "call ref") => `(tactic| (with_reducible refine hold ?_))
section
variable {w : World} {s : Shared} {mg mb : Str → Option Value} {dp un : Nat} {fr : Option (List Env)} {gd : Option (List Code)} {R : Result → Shared → Prop}
theorem joined_7 {h₀ : Heap} {L : Addr} {m : Str → Option Value} {imm : List (Addr × Obj)} (F₀ : Fr h₀ L s.heap m) (N₀ : News h₀ L s.heap imm) (X₀ : (kk.heap_1 w.params).In h₀) (T₀ : TopRead vw (looseW vw [Str.ofString "ROWS"]) mg mb h₀) {way1 : Tok} {one two three : Value} {o1 o2 o3 : List Op × Int} (hD : dp + 9 ≤ 400) (hU : un + 120 ≤ 5000) (h1 : PoolAt (Hs Em imm) one o1) (h2 : PoolAt (Hs Em imm) two o2) (h3 : PoolAt (Hs Em imm) three o3) (hz : (chain [o1.1, o2.1, [.cons]]).length ≤ 1000) (z1 : o1.1.length ≤ 1000) (z2 : o2.1.length ≤ 1000) (z3 : o3.1.length ≤ 1000) (hR : ∀ h' tk b, s.heap.StaysIn h' → PoolAt (Ext (Hs Em imm) s.heap h') b (chain [o1.1, o2.1, [.cons]], max o1.2 (1 + o2.2)) → R (.ok (.ret b)) { s with heap := h', toks := tk }) : codeAny (model PySem.Challenge.rw_rg0136_01.row.toRowW.prog w) (Ar dp un fr gd) (.call (.ref 378) ⟨[.int 7 way1, one, two, three], []⟩) R s := by
  have p1 := h1
  have p2 := h2
  have p3 := h3
  refine Classical.byContradiction fun hn9 => ?_
  obtain ⟨b1, b2, b3⟩ := hide_base F₀ N₀
  (refine hn9 ?_; clear hn9)
  have X := X₀.keeps b1
  have T := T₀.keeps b1
  refine Classical.byContradiction fun hn9 => ?_
  obtain ⟨ta, aa, ka, na, rfl, hta, hla⟩ := h1
  (refine hn9 ?_; clear hn9)
  refine Classical.byContradiction fun hn9 => ?_
  obtain ⟨tb, ab, kb, nb, rfl, htb, hlb⟩ := h2
  (refine hn9 ?_; clear hn9)
  refine Classical.byContradiction fun hn9 => ?_
  obtain ⟨tc, ac, kc, nc, rfl, htc, hlc⟩ := h3
  (refine hn9 ?_; clear hn9)
  have hTa : Tup (Hs Em imm) ta [.ref aa, .int o1.2 ka] := ⟨na, hta⟩
  have hTb : Tup (Hs Em imm) tb [.ref ab, .int o2.2 kb] := ⟨nb, htb⟩
  have hTc : Tup (Hs Em imm) tc [.ref ac, .int o3.2 kc] := ⟨nc, htc⟩
  have hLa : ∃ vs : List Value, Lst (Hs Em imm) aa vs ∧ vs.length = o1.1.length := let ⟨vs, x, y⟩ := hla; ⟨vs, x, y.length⟩
  have hLb : ∃ vs : List Value, Lst (Hs Em imm) ab vs ∧ vs.length = o2.1.length := let ⟨vs, x, y⟩ := hlb; ⟨vs, x, y.length⟩
  have hLc : ∃ vs : List Value, Lst (Hs Em imm) ac vs ∧ vs.length = o3.1.length := let ⟨vs, x, y⟩ := hlc; ⟨vs, x, y.length⟩
  refine Classical.byContradiction fun hn9 => ?_
  obtain ⟨va, hLa, hva⟩ := hLa
  (refine hn9 ?_; clear hn9)
  refine Classical.byContradiction fun hn9 => ?_
  obtain ⟨vb, hLb, hvb⟩ := hLb
  (refine hn9 ?_; clear hn9)
  refine Classical.byContradiction fun hn9 => ?_
  obtain ⟨vc, hLc, hvc⟩ := hLc
  (refine hn9 ?_; clear hn9)
  refine' enter2 (K := kk.heap_1 _) (binds := [(Str.ofString "way", .int 7 way1), (Str.ofString "one", .ref ta), (Str.ofString "two", .ref tb), (Str.ofString "three", .ref tc)]) (hideAll s.heap (imm.map (·.1))) imm ?k3 ?k5 ?kk ?kz ?kp ?k6 ?k7 ?k8 ?k9 ?kB ?_ ?c2 ?c3 ?c4 ?c5; (case k6 => k_is); (case k7 => k_is); (case k8 => ktr_room); (case k9 => exact BindsTo.of_eq rfl); (case c5 => decide); (case kB => exact locs rfl); (case c2 => exact rfl); (case c3 => exact rfl); (case c4 => exact rfl)
  case k3 => exact X
  case k5 => exact TopRead.nolimit (T.keeps b2)
  case kk => exact b2
  case kz => exact Nat.le_of_eq (hideAll_size _ _)
  case kp => exact b3
  intro L' h₁ F N
  (try dsimp only)
  generalize hg : hideAll s.heap (imm.map (·.1)) = g at *
  have hem : Sub Em (hSt g) := fun _ _ e => e.elim
  k_steps
  unfold Hold
  have hs1 : s.heap.StaysIn _ := hide_stays' hg (Fr.keep (by k_asm : Fr g L' _ _)) (by k_asm) (fun _ h => h) fun p hp => (b3 p hp).1
  k_dflt (refine' wpAny_call (called_0 (imm := imm) (o1 := o1) (o2 := o2) (o3 := o3) ?F ?N ?X ?T ?D ?U ?a ?b ?c ?z ?z1 ?z2 ?z3 ?_); (case F => k_asm); (case N => k_asm); (case X => exact X); (case T => exact T); (case D => ((try simp only [Ar, depth_deeper, units_deeper, recursionLimit, cLine] at *); omega)); (case U => ((try simp only [Ar, depth_deeper, units_deeper, recursionLimit, cLine] at *); omega)); (case a => assumption); (case b => assumption); (case c => assumption); (case z => assumption); (case z1 => assumption); (case z2 => assumption); (case z3 => assumption))
  intro h4 tk4 b hk4 hb
  exact hR _ _ _ (fun b o e => hk4 b o (hs1 b o e)) (hb.mono (ext_back hs1))
theorem joined_8 {h₀ : Heap} {L : Addr} {m : Str → Option Value} {imm : List (Addr × Obj)} (F₀ : Fr h₀ L s.heap m) (N₀ : News h₀ L s.heap imm) (X₀ : (kk.heap_1 w.params).In h₀) (T₀ : TopRead vw (looseW vw [Str.ofString "ROWS"]) mg mb h₀) {way1 : Tok} {one two three : Value} {o1 o2 o3 : List Op × Int} (hD : dp + 9 ≤ 400) (hU : un + 120 ≤ 5000) (h1 : PoolAt (Hs Em imm) one o1) (h2 : PoolAt (Hs Em imm) two o2) (h3 : PoolAt (Hs Em imm) three o3) (hz : (chain [o1.1, o2.1, o3.1, [.call]]).length ≤ 1000) (z1 : o1.1.length ≤ 1000) (z2 : o2.1.length ≤ 1000) (z3 : o3.1.length ≤ 1000) (hR : ∀ h' tk b, s.heap.StaysIn h' → PoolAt (Ext (Hs Em imm) s.heap h') b (chain [o1.1, o2.1, o3.1, [.call]], max (max o1.2 (1 + o2.2)) (2 + o3.2)) → R (.ok (.ret b)) { s with heap := h', toks := tk }) : codeAny (model PySem.Challenge.rw_rg0136_01.row.toRowW.prog w) (Ar dp un fr gd) (.call (.ref 378) ⟨[.int 8 way1, one, two, three], []⟩) R s := by
  have p1 := h1
  have p2 := h2
  have p3 := h3
  refine Classical.byContradiction fun hn9 => ?_
  obtain ⟨b1, b2, b3⟩ := hide_base F₀ N₀
  (refine hn9 ?_; clear hn9)
  have X := X₀.keeps b1
  have T := T₀.keeps b1
  refine Classical.byContradiction fun hn9 => ?_
  obtain ⟨ta, aa, ka, na, rfl, hta, hla⟩ := h1
  (refine hn9 ?_; clear hn9)
  refine Classical.byContradiction fun hn9 => ?_
  obtain ⟨tb, ab, kb, nb, rfl, htb, hlb⟩ := h2
  (refine hn9 ?_; clear hn9)
  refine Classical.byContradiction fun hn9 => ?_
  obtain ⟨tc, ac, kc, nc, rfl, htc, hlc⟩ := h3
  (refine hn9 ?_; clear hn9)
  have hTa : Tup (Hs Em imm) ta [.ref aa, .int o1.2 ka] := ⟨na, hta⟩
  have hTb : Tup (Hs Em imm) tb [.ref ab, .int o2.2 kb] := ⟨nb, htb⟩
  have hTc : Tup (Hs Em imm) tc [.ref ac, .int o3.2 kc] := ⟨nc, htc⟩
  have hLa : ∃ vs : List Value, Lst (Hs Em imm) aa vs ∧ vs.length = o1.1.length := let ⟨vs, x, y⟩ := hla; ⟨vs, x, y.length⟩
  have hLb : ∃ vs : List Value, Lst (Hs Em imm) ab vs ∧ vs.length = o2.1.length := let ⟨vs, x, y⟩ := hlb; ⟨vs, x, y.length⟩
  have hLc : ∃ vs : List Value, Lst (Hs Em imm) ac vs ∧ vs.length = o3.1.length := let ⟨vs, x, y⟩ := hlc; ⟨vs, x, y.length⟩
  refine Classical.byContradiction fun hn9 => ?_
  obtain ⟨va, hLa, hva⟩ := hLa
  (refine hn9 ?_; clear hn9)
  refine Classical.byContradiction fun hn9 => ?_
  obtain ⟨vb, hLb, hvb⟩ := hLb
  (refine hn9 ?_; clear hn9)
  refine Classical.byContradiction fun hn9 => ?_
  obtain ⟨vc, hLc, hvc⟩ := hLc
  (refine hn9 ?_; clear hn9)
  refine' enter2 (K := kk.heap_1 _) (binds := [(Str.ofString "way", .int 8 way1), (Str.ofString "one", .ref ta), (Str.ofString "two", .ref tb), (Str.ofString "three", .ref tc)]) (hideAll s.heap (imm.map (·.1))) imm ?k3 ?k5 ?kk ?kz ?kp ?k6 ?k7 ?k8 ?k9 ?kB ?_ ?c2 ?c3 ?c4 ?c5; (case k6 => k_is); (case k7 => k_is); (case k8 => ktr_room); (case k9 => exact BindsTo.of_eq rfl); (case c5 => decide); (case kB => exact locs rfl); (case c2 => exact rfl); (case c3 => exact rfl); (case c4 => exact rfl)
  case k3 => exact X
  case k5 => exact TopRead.nolimit (T.keeps b2)
  case kk => exact b2
  case kz => exact Nat.le_of_eq (hideAll_size _ _)
  case kp => exact b3
  intro L' h₁ F N
  (try dsimp only)
  generalize hg : hideAll s.heap (imm.map (·.1)) = g at *
  have hem : Sub Em (hSt g) := fun _ _ e => e.elim
  k_steps
  unfold Hold
  have hs1 : s.heap.StaysIn _ := hide_stays' hg (Fr.keep (by k_asm : Fr g L' _ _)) (by k_asm) (fun _ h => h) fun p hp => (b3 p hp).1
  k_dflt (refine' wpAny_call (called_1 (imm := imm) (o1 := o1) (o2 := o2) (o3 := o3) ?F ?N ?X ?T ?D ?U ?a ?b ?c ?z ?z1 ?z2 ?z3 ?_); (case F => k_asm); (case N => k_asm); (case X => exact X); (case T => exact T); (case D => ((try simp only [Ar, depth_deeper, units_deeper, recursionLimit, cLine] at *); omega)); (case U => ((try simp only [Ar, depth_deeper, units_deeper, recursionLimit, cLine] at *); omega)); (case a => assumption); (case b => assumption); (case c => assumption); (case z => assumption); (case z1 => assumption); (case z2 => assumption); (case z3 => assumption))
  intro h4 tk4 b hk4 hb
  exact hR _ _ _ (fun b o e => hk4 b o (hs1 b o e)) (hb.mono (ext_back hs1))
theorem joined_9 {h₀ : Heap} {L : Addr} {m : Str → Option Value} {imm : List (Addr × Obj)} (F₀ : Fr h₀ L s.heap m) (N₀ : News h₀ L s.heap imm) (X₀ : (kk.heap_1 w.params).In h₀) (T₀ : TopRead vw (looseW vw [Str.ofString "ROWS"]) mg mb h₀) {way1 : Tok} {one two three : Value} {o1 o2 o3 : List Op × Int} (hD : dp + 9 ≤ 400) (hU : un + 120 ≤ 5000) (h1 : PoolAt (Hs Em imm) one o1) (h2 : PoolAt (Hs Em imm) two o2) (h3 : PoolAt (Hs Em imm) three o3) (hz : (o1.1 ++ [Op.dup, Op.eq]).length ≤ 1000) (z1 : o1.1.length ≤ 1000) (z2 : o2.1.length ≤ 1000) (z3 : o3.1.length ≤ 1000) (hR : ∀ h' tk b, s.heap.StaysIn h' → PoolAt (Ext (Hs Em imm) s.heap h') b (o1.1 ++ [Op.dup, Op.eq], max o1.2 2) → R (.ok (.ret b)) { s with heap := h', toks := tk }) : codeAny (model PySem.Challenge.rw_rg0136_01.row.toRowW.prog w) (Ar dp un fr gd) (.call (.ref 378) ⟨[.int 9 way1, one, two, three], []⟩) R s := by
  have p1 := h1
  have p2 := h2
  have p3 := h3
  refine Classical.byContradiction fun hn9 => ?_
  obtain ⟨b1, b2, b3⟩ := hide_base F₀ N₀
  (refine hn9 ?_; clear hn9)
  have X := X₀.keeps b1
  have T := T₀.keeps b1
  refine Classical.byContradiction fun hn9 => ?_
  obtain ⟨ta, aa, ka, na, rfl, hta, hla⟩ := h1
  (refine hn9 ?_; clear hn9)
  refine Classical.byContradiction fun hn9 => ?_
  obtain ⟨tb, ab, kb, nb, rfl, htb, hlb⟩ := h2
  (refine hn9 ?_; clear hn9)
  refine Classical.byContradiction fun hn9 => ?_
  obtain ⟨tc, ac, kc, nc, rfl, htc, hlc⟩ := h3
  (refine hn9 ?_; clear hn9)
  have hTa : Tup (Hs Em imm) ta [.ref aa, .int o1.2 ka] := ⟨na, hta⟩
  have hTb : Tup (Hs Em imm) tb [.ref ab, .int o2.2 kb] := ⟨nb, htb⟩
  have hTc : Tup (Hs Em imm) tc [.ref ac, .int o3.2 kc] := ⟨nc, htc⟩
  have hLa : ∃ vs : List Value, Lst (Hs Em imm) aa vs ∧ vs.length = o1.1.length := let ⟨vs, x, y⟩ := hla; ⟨vs, x, y.length⟩
  have hLb : ∃ vs : List Value, Lst (Hs Em imm) ab vs ∧ vs.length = o2.1.length := let ⟨vs, x, y⟩ := hlb; ⟨vs, x, y.length⟩
  have hLc : ∃ vs : List Value, Lst (Hs Em imm) ac vs ∧ vs.length = o3.1.length := let ⟨vs, x, y⟩ := hlc; ⟨vs, x, y.length⟩
  refine Classical.byContradiction fun hn9 => ?_
  obtain ⟨va, hLa, hva⟩ := hLa
  (refine hn9 ?_; clear hn9)
  refine Classical.byContradiction fun hn9 => ?_
  obtain ⟨vb, hLb, hvb⟩ := hLb
  (refine hn9 ?_; clear hn9)
  refine Classical.byContradiction fun hn9 => ?_
  obtain ⟨vc, hLc, hvc⟩ := hLc
  (refine hn9 ?_; clear hn9)
  refine' enter2 (K := kk.heap_1 _) (binds := [(Str.ofString "way", .int 9 way1), (Str.ofString "one", .ref ta), (Str.ofString "two", .ref tb), (Str.ofString "three", .ref tc)]) (hideAll s.heap (imm.map (·.1))) imm ?k3 ?k5 ?kk ?kz ?kp ?k6 ?k7 ?k8 ?k9 ?kB ?_ ?c2 ?c3 ?c4 ?c5; (case k6 => k_is); (case k7 => k_is); (case k8 => ktr_room); (case k9 => exact BindsTo.of_eq rfl); (case c5 => decide); (case kB => exact locs rfl); (case c2 => exact rfl); (case c3 => exact rfl); (case c4 => exact rfl)
  case k3 => exact X
  case k5 => exact TopRead.nolimit (T.keeps b2)
  case kk => exact b2
  case kz => exact Nat.le_of_eq (hideAll_size _ _)
  case kp => exact b3
  intro L' h₁ F N
  (try dsimp only)
  generalize hg : hideAll s.heap (imm.map (·.1)) = g at *
  have hem : Sub Em (hSt g) := fun _ _ e => e.elim
  k_steps
  unfold Hold
  have hs1 : s.heap.StaysIn _ := hide_stays' hg (Fr.keep (by k_asm : Fr g L' _ _)) (by k_asm) (fun _ h => h) fun p hp => (b3 p hp).1
  k_dflt (refine' wpAny_call (called_2 (imm := imm) (o1 := o1) (o2 := o2) (o3 := o3) ?F ?N ?X ?T ?D ?U ?a ?b ?c ?z ?z1 ?z2 ?z3 ?_); (case F => k_asm); (case N => k_asm); (case X => exact X); (case T => exact T); (case D => ((try simp only [Ar, depth_deeper, units_deeper, recursionLimit, cLine] at *); omega)); (case U => ((try simp only [Ar, depth_deeper, units_deeper, recursionLimit, cLine] at *); omega)); (case a => assumption); (case b => assumption); (case c => assumption); (case z => assumption); (case z1 => assumption); (case z2 => assumption); (case z3 => assumption))
  intro h4 tk4 b hk4 hb
  exact hR _ _ _ (fun b o e => hk4 b o (hs1 b o e)) (hb.mono (ext_back hs1))
theorem joined_10 {h₀ : Heap} {L : Addr} {m : Str → Option Value} {imm : List (Addr × Obj)} (F₀ : Fr h₀ L s.heap m) (N₀ : News h₀ L s.heap imm) (X₀ : (kk.heap_1 w.params).In h₀) (T₀ : TopRead vw (looseW vw [Str.ofString "ROWS"]) mg mb h₀) {way1 : Tok} {one two three : Value} {o1 o2 o3 : List Op × Int} (hD : dp + 9 ≤ 400) (hU : un + 120 ≤ 5000) (h1 : PoolAt (Hs Em imm) one o1) (h2 : PoolAt (Hs Em imm) two o2) (h3 : PoolAt (Hs Em imm) three o3) (hz : (chain [o1.1, o2.1, [.stackref, .list3]]).length ≤ 1000) (z1 : o1.1.length ≤ 1000) (z2 : o2.1.length ≤ 1000) (z3 : o3.1.length ≤ 1000) (hR : ∀ h' tk b, s.heap.StaysIn h' → PoolAt (Ext (Hs Em imm) s.heap h') b (chain [o1.1, o2.1, [.stackref, .list3]], max (max o1.2 (1 + o2.2)) 3) → R (.ok (.ret b)) { s with heap := h', toks := tk }) : codeAny (model PySem.Challenge.rw_rg0136_01.row.toRowW.prog w) (Ar dp un fr gd) (.call (.ref 378) ⟨[.int 10 way1, one, two, three], []⟩) R s := by
  have p1 := h1
  have p2 := h2
  have p3 := h3
  refine Classical.byContradiction fun hn9 => ?_
  obtain ⟨b1, b2, b3⟩ := hide_base F₀ N₀
  (refine hn9 ?_; clear hn9)
  have X := X₀.keeps b1
  have T := T₀.keeps b1
  refine Classical.byContradiction fun hn9 => ?_
  obtain ⟨ta, aa, ka, na, rfl, hta, hla⟩ := h1
  (refine hn9 ?_; clear hn9)
  refine Classical.byContradiction fun hn9 => ?_
  obtain ⟨tb, ab, kb, nb, rfl, htb, hlb⟩ := h2
  (refine hn9 ?_; clear hn9)
  refine Classical.byContradiction fun hn9 => ?_
  obtain ⟨tc, ac, kc, nc, rfl, htc, hlc⟩ := h3
  (refine hn9 ?_; clear hn9)
  have hTa : Tup (Hs Em imm) ta [.ref aa, .int o1.2 ka] := ⟨na, hta⟩
  have hTb : Tup (Hs Em imm) tb [.ref ab, .int o2.2 kb] := ⟨nb, htb⟩
  have hTc : Tup (Hs Em imm) tc [.ref ac, .int o3.2 kc] := ⟨nc, htc⟩
  have hLa : ∃ vs : List Value, Lst (Hs Em imm) aa vs ∧ vs.length = o1.1.length := let ⟨vs, x, y⟩ := hla; ⟨vs, x, y.length⟩
  have hLb : ∃ vs : List Value, Lst (Hs Em imm) ab vs ∧ vs.length = o2.1.length := let ⟨vs, x, y⟩ := hlb; ⟨vs, x, y.length⟩
  have hLc : ∃ vs : List Value, Lst (Hs Em imm) ac vs ∧ vs.length = o3.1.length := let ⟨vs, x, y⟩ := hlc; ⟨vs, x, y.length⟩
  refine Classical.byContradiction fun hn9 => ?_
  obtain ⟨va, hLa, hva⟩ := hLa
  (refine hn9 ?_; clear hn9)
  refine Classical.byContradiction fun hn9 => ?_
  obtain ⟨vb, hLb, hvb⟩ := hLb
  (refine hn9 ?_; clear hn9)
  refine Classical.byContradiction fun hn9 => ?_
  obtain ⟨vc, hLc, hvc⟩ := hLc
  (refine hn9 ?_; clear hn9)
  refine' enter2 (K := kk.heap_1 _) (binds := [(Str.ofString "way", .int 10 way1), (Str.ofString "one", .ref ta), (Str.ofString "two", .ref tb), (Str.ofString "three", .ref tc)]) (hideAll s.heap (imm.map (·.1))) imm ?k3 ?k5 ?kk ?kz ?kp ?k6 ?k7 ?k8 ?k9 ?kB ?_ ?c2 ?c3 ?c4 ?c5; (case k6 => k_is); (case k7 => k_is); (case k8 => ktr_room); (case k9 => exact BindsTo.of_eq rfl); (case c5 => decide); (case kB => exact locs rfl); (case c2 => exact rfl); (case c3 => exact rfl); (case c4 => exact rfl)
  case k3 => exact X
  case k5 => exact TopRead.nolimit (T.keeps b2)
  case kk => exact b2
  case kz => exact Nat.le_of_eq (hideAll_size _ _)
  case kp => exact b3
  intro L' h₁ F N
  (try dsimp only)
  generalize hg : hideAll s.heap (imm.map (·.1)) = g at *
  have hem : Sub Em (hSt g) := fun _ _ e => e.elim
  k_steps
  unfold Hold
  have hs1 : s.heap.StaysIn _ := hide_stays' hg (Fr.keep (by k_asm : Fr g L' _ _)) (by k_asm) (fun _ h => h) fun p hp => (b3 p hp).1
  k_dflt (refine' wpAny_call (called_3 (imm := imm) (o1 := o1) (o2 := o2) (o3 := o3) ?F ?N ?X ?T ?D ?U ?a ?b ?c ?z ?z1 ?z2 ?z3 ?_); (case F => k_asm); (case N => k_asm); (case X => exact X); (case T => exact T); (case D => ((try simp only [Ar, depth_deeper, units_deeper, recursionLimit, cLine] at *); omega)); (case U => ((try simp only [Ar, depth_deeper, units_deeper, recursionLimit, cLine] at *); omega)); (case a => assumption); (case b => assumption); (case c => assumption); (case z => assumption); (case z1 => assumption); (case z2 => assumption); (case z3 => assumption))
  intro h4 tk4 b hk4 hb
  exact hR _ _ _ (fun b o e => hk4 b o (hs1 b o e)) (hb.mono (ext_back hs1))
end
end
section
set_option maxRecDepth 100000
set_option maxHeartbeats 1000000
local macro_rules | `(tactic| walk_at "call ref") => `(tactic| (with_reducible refine hold ?_))
local macro_rules | `(tactic| walk_at "call builtin:len") => `(tactic| (tbr_iter (1, "len"); k_dflt (refine' len_V ?l ?z ?_; (case l => walk_at "lt"); (case z => first | assumption | walk_at "ml"); intro t9 tk9)))
section
variable {w : World} {s : Shared} {mg mb : Str → Option Value} {dp un : Nat} {fr : Option (List Env)} {gd : Option (List Code)} {R : Result → Shared → Prop}
theorem joined_3 {h₀ : Heap} {L : Addr} {m : Str → Option Value} {imm : List (Addr × Obj)} (F₀ : Fr h₀ L s.heap m) (N₀ : News h₀ L s.heap imm) (X₀ : (kk.heap_1 w.params).In h₀) (T₀ : TopRead vw (looseW vw [Str.ofString "ROWS"]) mg mb h₀) {way1 : Tok} {one two three : Value} {o1 o2 o3 : List Op × Int} (hD : dp + 9 ≤ 400) (hU : un + 120 ≤ 5000) (h1 : PoolAt (Hs Em imm) one o1) (h2 : PoolAt (Hs Em imm) two o2) (h3 : PoolAt (Hs Em imm) three o3) (hz : (o1.1 ++ [Op.gnilpop ((o1.1.length : Int) + 1 + (o2.1.length : Int))] ++ o2.1.map (Op.move ((o1.1.length : Int) + 1))).length ≤ 1000) (z1 : o1.1.length ≤ 1000) (z2 : o2.1.length ≤ 1000) (z3 : o3.1.length ≤ 1000) (hR : ∀ h' tk b, s.heap.StaysIn h' → PoolAt (Ext (Hs Em imm) s.heap h') b (o1.1 ++ [Op.gnilpop ((o1.1.length : Int) + 1 + (o2.1.length : Int))] ++ o2.1.map (Op.move ((o1.1.length : Int) + 1)), max o1.2 o2.2) → R (.ok (.ret b)) { s with heap := h', toks := tk }) : codeAny (model PySem.Challenge.rw_rg0136_01.row.toRowW.prog w) (Ar dp un fr gd) (.call (.ref 378) ⟨[.int 3 way1, one, two, three], []⟩) R s := by
  refine Classical.byContradiction fun hn9 => ?_
  obtain ⟨b1, b2, b3⟩ := hide_base F₀ N₀
  (refine hn9 ?_; clear hn9)
  have X := X₀.keeps b1
  have T := T₀.keeps b1
  refine Classical.byContradiction fun hn9 => ?_
  obtain ⟨ta, aa, ka, na, rfl, hta, hla⟩ := h1
  (refine hn9 ?_; clear hn9)
  refine Classical.byContradiction fun hn9 => ?_
  obtain ⟨tb, ab, kb, nb, rfl, htb, hlb⟩ := h2
  (refine hn9 ?_; clear hn9)
  refine Classical.byContradiction fun hn9 => ?_
  obtain ⟨tc, ac, kc, nc, rfl, htc, hlc⟩ := h3
  (refine hn9 ?_; clear hn9)
  have hTa : Tup (Hs Em imm) ta [.ref aa, .int o1.2 ka] := ⟨na, hta⟩
  have hTb : Tup (Hs Em imm) tb [.ref ab, .int o2.2 kb] := ⟨nb, htb⟩
  have hTc : Tup (Hs Em imm) tc [.ref ac, .int o3.2 kc] := ⟨nc, htc⟩
  have hLa : ∃ vs : List Value, Lst (Hs Em imm) aa vs ∧ vs.length = o1.1.length := let ⟨vs, x, y⟩ := hla; ⟨vs, x, y.length⟩
  have hLb : ∃ vs : List Value, Lst (Hs Em imm) ab vs ∧ vs.length = o2.1.length := let ⟨vs, x, y⟩ := hlb; ⟨vs, x, y.length⟩
  have hLc : ∃ vs : List Value, Lst (Hs Em imm) ac vs ∧ vs.length = o3.1.length := let ⟨vs, x, y⟩ := hlc; ⟨vs, x, y.length⟩
  refine Classical.byContradiction fun hn9 => ?_
  obtain ⟨va, hLa, hva⟩ := hLa
  (refine hn9 ?_; clear hn9)
  refine Classical.byContradiction fun hn9 => ?_
  obtain ⟨vb, hLb, hvb⟩ := hLb
  (refine hn9 ?_; clear hn9)
  refine Classical.byContradiction fun hn9 => ?_
  obtain ⟨vc, hLc, hvc⟩ := hLc
  (refine hn9 ?_; clear hn9)
  refine' enter2 (K := kk.heap_1 _) (binds := [(Str.ofString "way", .int 3 way1), (Str.ofString "one", .ref ta), (Str.ofString "two", .ref tb), (Str.ofString "three", .ref tc)]) (hideAll s.heap (imm.map (·.1))) imm ?k3 ?k5 ?kk ?kz ?kp ?k6 ?k7 ?k8 ?k9 ?kB ?_ ?c2 ?c3 ?c4 ?c5; (case k6 => k_is); (case k7 => k_is); (case k8 => ktr_room); (case k9 => exact BindsTo.of_eq rfl); (case c5 => decide); (case kB => exact locs rfl); (case c2 => exact rfl); (case c3 => exact rfl); (case c4 => exact rfl)
  case k3 => exact X
  case k5 => exact TopRead.nolimit (T.keeps b2)
  case kk => exact b2
  case kz => exact Nat.le_of_eq (hideAll_size _ _)
  case kp => exact b3
  intro L' h₁ F N
  (try dsimp only)
  generalize hg : hideAll s.heap (imm.map (·.1)) = g at *
  have hem : Sub Em (hSt g) := fun _ _ e => e.elim
  k_steps
  unfold Hold
  rw [← hva, ← hvb] at hR
  k_dflt (refine' add_LL (xs := o1.1) (ys := [Op.gnilpop ((va.length : Int) + 1 + (vb.length : Int))]) ?F ?N ?a ?b ?z ?_; (case F => k_asm); (case N => k_asm); (case a => exact hla.mono (hs_more (by (intro p9 hp9; (repeat' (refine List.mem_cons_of_mem _ ?_)); assumption)))); (case b => exact ⟨_, ⟨_, .inr (by k_mem)⟩, .cons ⟨_, _, _, rfl, _, .inr (by k_mem)⟩ .nil⟩); (case z => ((try simp only [List.length_append, List.length_map, List.length_cons, List.length_nil]); omega)))
  intro h5 D5 imm5 F5 N5 hs5 hl5
  have up5 : ∀ p ∈ imm, p ∈ imm5 := fun p hp => hs5 p (by revert hp; revert p; (intro p9 hp9; (repeat' (refine List.mem_cons_of_mem _ ?_)); assumption))
  have hTa := hTa.mono (hs_more up5)
  have hTb := hTb.mono (hs_more up5)
  have hTc := hTc.mono (hs_more up5)
  have hLa := hLa.mono (hs_more up5)
  have hLb := hLb.mono (hs_more up5)
  have hLc := hLc.mono (hs_more up5)
  (try dsimp only)
  k_steps
  unfold Hold
  k_dflt (refine' wpAny_call (moved_ok (imm := imm5) (ops := o2.1) ?F ?N ?X ?T ?D ?U ?a ?z ?_); (case F => k_asm); (case N => k_asm); (case X => exact X); (case T => exact T); (case D => ((try simp only [Ar, depth_deeper, units_deeper, recursionLimit, cLine] at *); omega)); (case U => ((try simp only [Ar, depth_deeper, units_deeper, recursionLimit, cLine] at *); omega)); (case a => exact hlb.mono (hs_more up5)); (case z => exact z2))
  intro h6 tk6 b6 hk6 hb6
  refine Classical.byContradiction fun hn9 => ?_
  obtain ⟨imm6, F6, N6, hs6, hb6⟩ := chain_back (imm := imm5) (by k_asm) (by k_asm) hk6 hb6 (fun _ h => h)
  (refine hn9 ?_; clear hn9)
  clear hk6
  have hTa := hTa.mono (hs_more hs6)
  have hTb := hTb.mono (hs_more hs6)
  have hTc := hTc.mono (hs_more hs6)
  have hLa := hLa.mono (hs_more hs6)
  have hLb := hLb.mono (hs_more hs6)
  have hLc := hLc.mono (hs_more hs6)
  (try dsimp only)
  k_steps
  unfold Hold
  k_dflt (refine' add_LL (xs := o1.1 ++ [Op.gnilpop ((va.length : Int) + 1 + (vb.length : Int))]) (ys := o2.1.map (Op.move ((va.length : Int) + 1))) ?F ?N ?a ?b ?z ?_; (case F => k_asm); (case N => k_asm); (case a => exact hl5.mono (hs_more hs6)); (case b => exact hb6); (case z => ((try simp only [List.length_append, List.length_map, List.length_cons, List.length_nil]); omega)))
  intro h7 D7 imm7 F7 N7 hs7 hl7
  have up7 : ∀ p ∈ imm, p ∈ imm7 := fun p hp => hs7 p (hs6 p (up5 p hp))
  have hTa := hTa.mono (hs_more hs7)
  have hTb := hTb.mono (hs_more hs7)
  have hTc := hTc.mono (hs_more hs7)
  have hLa := hLa.mono (hs_more hs7)
  have hLb := hLb.mono (hs_more hs7)
  have hLc := hLc.mono (hs_more hs7)
  (try dsimp only)
  k_steps
  have hfin : s.heap.StaysIn _ ∧ PoolAt (Ext (Hs Em imm) s.heap _) (.ref _) (o1.1 ++ [Op.gnilpop ((va.length : Int) + 1 + (vb.length : Int))] ++ o2.1.map (Op.move ((va.length : Int) + 1)), max o1.2 o2.2) :=
    pool_end hg (by k_asm) (by k_asm) (fun p hp => (b3 p hp).1) (by k_mem) (hl7.mono (hs_more (by (intro p9 hp9; (repeat' (refine List.mem_cons_of_mem _ ?_)); assumption)))) (fun p hp => by have q := up7 p hp; clear hp; revert q; revert p; (intro p9 hp9; (repeat' (refine List.mem_cons_of_mem _ ?_)); assumption))
  exact hR _ _ _ hfin.1 hfin.2
theorem joined_2 {h₀ : Heap} {L : Addr} {m : Str → Option Value} {imm : List (Addr × Obj)} (F₀ : Fr h₀ L s.heap m) (N₀ : News h₀ L s.heap imm) (X₀ : (kk.heap_1 w.params).In h₀) (T₀ : TopRead vw (looseW vw [Str.ofString "ROWS"]) mg mb h₀) {way1 : Tok} {one two three : Value} {o1 o2 o3 : List Op × Int} (hD : dp + 9 ≤ 400) (hU : un + 120 ≤ 5000) (h1 : PoolAt (Hs Em imm) one o1) (h2 : PoolAt (Hs Em imm) two o2) (h3 : PoolAt (Hs Em imm) three o3) (hz : (o1.1 ++ [Op.gnonpop ((o1.1.length : Int) + 1 + (o2.1.length : Int))] ++ o2.1.map (Op.move ((o1.1.length : Int) + 1))).length ≤ 1000) (z1 : o1.1.length ≤ 1000) (z2 : o2.1.length ≤ 1000) (z3 : o3.1.length ≤ 1000) (hR : ∀ h' tk b, s.heap.StaysIn h' → PoolAt (Ext (Hs Em imm) s.heap h') b (o1.1 ++ [Op.gnonpop ((o1.1.length : Int) + 1 + (o2.1.length : Int))] ++ o2.1.map (Op.move ((o1.1.length : Int) + 1)), max o1.2 o2.2) → R (.ok (.ret b)) { s with heap := h', toks := tk }) : codeAny (model PySem.Challenge.rw_rg0136_01.row.toRowW.prog w) (Ar dp un fr gd) (.call (.ref 378) ⟨[.int 2 way1, one, two, three], []⟩) R s := by
  refine Classical.byContradiction fun hn9 => ?_
  obtain ⟨b1, b2, b3⟩ := hide_base F₀ N₀
  (refine hn9 ?_; clear hn9)
  have X := X₀.keeps b1
  have T := T₀.keeps b1
  refine Classical.byContradiction fun hn9 => ?_
  obtain ⟨ta, aa, ka, na, rfl, hta, hla⟩ := h1
  (refine hn9 ?_; clear hn9)
  refine Classical.byContradiction fun hn9 => ?_
  obtain ⟨tb, ab, kb, nb, rfl, htb, hlb⟩ := h2
  (refine hn9 ?_; clear hn9)
  refine Classical.byContradiction fun hn9 => ?_
  obtain ⟨tc, ac, kc, nc, rfl, htc, hlc⟩ := h3
  (refine hn9 ?_; clear hn9)
  have hTa : Tup (Hs Em imm) ta [.ref aa, .int o1.2 ka] := ⟨na, hta⟩
  have hTb : Tup (Hs Em imm) tb [.ref ab, .int o2.2 kb] := ⟨nb, htb⟩
  have hTc : Tup (Hs Em imm) tc [.ref ac, .int o3.2 kc] := ⟨nc, htc⟩
  have hLa : ∃ vs : List Value, Lst (Hs Em imm) aa vs ∧ vs.length = o1.1.length := let ⟨vs, x, y⟩ := hla; ⟨vs, x, y.length⟩
  have hLb : ∃ vs : List Value, Lst (Hs Em imm) ab vs ∧ vs.length = o2.1.length := let ⟨vs, x, y⟩ := hlb; ⟨vs, x, y.length⟩
  have hLc : ∃ vs : List Value, Lst (Hs Em imm) ac vs ∧ vs.length = o3.1.length := let ⟨vs, x, y⟩ := hlc; ⟨vs, x, y.length⟩
  refine Classical.byContradiction fun hn9 => ?_
  obtain ⟨va, hLa, hva⟩ := hLa
  (refine hn9 ?_; clear hn9)
  refine Classical.byContradiction fun hn9 => ?_
  obtain ⟨vb, hLb, hvb⟩ := hLb
  (refine hn9 ?_; clear hn9)
  refine Classical.byContradiction fun hn9 => ?_
  obtain ⟨vc, hLc, hvc⟩ := hLc
  (refine hn9 ?_; clear hn9)
  refine' enter2 (K := kk.heap_1 _) (binds := [(Str.ofString "way", .int 2 way1), (Str.ofString "one", .ref ta), (Str.ofString "two", .ref tb), (Str.ofString "three", .ref tc)]) (hideAll s.heap (imm.map (·.1))) imm ?k3 ?k5 ?kk ?kz ?kp ?k6 ?k7 ?k8 ?k9 ?kB ?_ ?c2 ?c3 ?c4 ?c5; (case k6 => k_is); (case k7 => k_is); (case k8 => ktr_room); (case k9 => exact BindsTo.of_eq rfl); (case c5 => decide); (case kB => exact locs rfl); (case c2 => exact rfl); (case c3 => exact rfl); (case c4 => exact rfl)
  case k3 => exact X
  case k5 => exact TopRead.nolimit (T.keeps b2)
  case kk => exact b2
  case kz => exact Nat.le_of_eq (hideAll_size _ _)
  case kp => exact b3
  intro L' h₁ F N
  (try dsimp only)
  generalize hg : hideAll s.heap (imm.map (·.1)) = g at *
  have hem : Sub Em (hSt g) := fun _ _ e => e.elim
  k_steps
  unfold Hold
  rw [← hva, ← hvb] at hR
  k_dflt (refine' add_LL (xs := o1.1) (ys := [Op.gnonpop ((va.length : Int) + 1 + (vb.length : Int))]) ?F ?N ?a ?b ?z ?_; (case F => k_asm); (case N => k_asm); (case a => exact hla.mono (hs_more (by (intro p9 hp9; (repeat' (refine List.mem_cons_of_mem _ ?_)); assumption)))); (case b => exact ⟨_, ⟨_, .inr (by k_mem)⟩, .cons ⟨_, _, _, rfl, _, .inr (by k_mem)⟩ .nil⟩); (case z => ((try simp only [List.length_append, List.length_map, List.length_cons, List.length_nil]); omega)))
  intro h5 D5 imm5 F5 N5 hs5 hl5
  have up5 : ∀ p ∈ imm, p ∈ imm5 := fun p hp => hs5 p (by revert hp; revert p; (intro p9 hp9; (repeat' (refine List.mem_cons_of_mem _ ?_)); assumption))
  have hTa := hTa.mono (hs_more up5)
  have hTb := hTb.mono (hs_more up5)
  have hTc := hTc.mono (hs_more up5)
  have hLa := hLa.mono (hs_more up5)
  have hLb := hLb.mono (hs_more up5)
  have hLc := hLc.mono (hs_more up5)
  (try dsimp only)
  k_steps
  unfold Hold
  k_dflt (refine' wpAny_call (moved_ok (imm := imm5) (ops := o2.1) ?F ?N ?X ?T ?D ?U ?a ?z ?_); (case F => k_asm); (case N => k_asm); (case X => exact X); (case T => exact T); (case D => ((try simp only [Ar, depth_deeper, units_deeper, recursionLimit, cLine] at *); omega)); (case U => ((try simp only [Ar, depth_deeper, units_deeper, recursionLimit, cLine] at *); omega)); (case a => exact hlb.mono (hs_more up5)); (case z => exact z2))
  intro h6 tk6 b6 hk6 hb6
  refine Classical.byContradiction fun hn9 => ?_
  obtain ⟨imm6, F6, N6, hs6, hb6⟩ := chain_back (imm := imm5) (by k_asm) (by k_asm) hk6 hb6 (fun _ h => h)
  (refine hn9 ?_; clear hn9)
  clear hk6
  have hTa := hTa.mono (hs_more hs6)
  have hTb := hTb.mono (hs_more hs6)
  have hTc := hTc.mono (hs_more hs6)
  have hLa := hLa.mono (hs_more hs6)
  have hLb := hLb.mono (hs_more hs6)
  have hLc := hLc.mono (hs_more hs6)
  (try dsimp only)
  k_steps
  unfold Hold
  k_dflt (refine' add_LL (xs := o1.1 ++ [Op.gnonpop ((va.length : Int) + 1 + (vb.length : Int))]) (ys := o2.1.map (Op.move ((va.length : Int) + 1))) ?F ?N ?a ?b ?z ?_; (case F => k_asm); (case N => k_asm); (case a => exact hl5.mono (hs_more hs6)); (case b => exact hb6); (case z => ((try simp only [List.length_append, List.length_map, List.length_cons, List.length_nil]); omega)))
  intro h7 D7 imm7 F7 N7 hs7 hl7
  have up7 : ∀ p ∈ imm, p ∈ imm7 := fun p hp => hs7 p (hs6 p (up5 p hp))
  have hTa := hTa.mono (hs_more hs7)
  have hTb := hTb.mono (hs_more hs7)
  have hTc := hTc.mono (hs_more hs7)
  have hLa := hLa.mono (hs_more hs7)
  have hLb := hLb.mono (hs_more hs7)
  have hLc := hLc.mono (hs_more hs7)
  (try dsimp only)
  k_steps
  have hfin : s.heap.StaysIn _ ∧ PoolAt (Ext (Hs Em imm) s.heap _) (.ref _) (o1.1 ++ [Op.gnonpop ((va.length : Int) + 1 + (vb.length : Int))] ++ o2.1.map (Op.move ((va.length : Int) + 1)), max o1.2 o2.2) :=
    pool_end hg (by k_asm) (by k_asm) (fun p hp => (b3 p hp).1) (by k_mem) (hl7.mono (hs_more (by (intro p9 hp9; (repeat' (refine List.mem_cons_of_mem _ ?_)); assumption)))) (fun p hp => by have q := up7 p hp; clear hp; revert q; revert p; (intro p9 hp9; (repeat' (refine List.mem_cons_of_mem _ ?_)); assumption))
  exact hR _ _ _ hfin.1 hfin.2
end
end
section
local macro_rules | `(tactic| walk_at "nowhere 0") => `(tactic| skip)
set_option maxRecDepth 100000
set_option maxHeartbeats 1000000
local macro_rules | `(tactic| walk_at "call ref") => `(tactic| (with_reducible refine hold ?_))
local macro_rules | `(tactic| walk_at "call builtin:len") => `(tactic| (tbr_iter (1, "len"); k_dflt (refine' len_V ?l ?z ?_; (case l => walk_at "lt"); (case z => first | assumption | walk_at "ml"); intro t9 tk9)))
section
variable {w : World} {s : Shared} {mg mb : Str → Option Value} {dp un : Nat} {fr : Option (List Env)} {gd : Option (List Code)} {R : Result → Shared → Prop}
theorem joined_5 {h₀ : Heap} {L : Addr} {m : Str → Option Value} {imm : List (Addr × Obj)} (F₀ : Fr h₀ L s.heap m) (N₀ : News h₀ L s.heap imm) (X₀ : (kk.heap_1 w.params).In h₀) (T₀ : TopRead vw (looseW vw [Str.ofString "ROWS"]) mg mb h₀) {way1 : Tok} {one two three : Value} {o1 o2 o3 : List Op × Int} (hD : dp + 9 ≤ 400) (hU : un + 120 ≤ 5000) (h1 : PoolAt (Hs Em imm) one o1) (h2 : PoolAt (Hs Em imm) two o2) (h3 : PoolAt (Hs Em imm) three o3) (hz : (o1.1 ++ [Op.pcatch ((o1.1.length : Int) + 1 + (o2.1.length : Int) + 1)] ++ o2.1.map (Op.move ((o1.1.length : Int) + 1)) ++ [Op.pop]).length ≤ 1000) (z1 : o1.1.length ≤ 1000) (z2 : o2.1.length ≤ 1000) (z3 : o3.1.length ≤ 1000) (hR : ∀ h' tk b, s.heap.StaysIn h' → PoolAt (Ext (Hs Em imm) s.heap h') b (o1.1 ++ [Op.pcatch ((o1.1.length : Int) + 1 + (o2.1.length : Int) + 1)] ++ o2.1.map (Op.move ((o1.1.length : Int) + 1)) ++ [Op.pop], max o1.2 o2.2) → R (.ok (.ret b)) { s with heap := h', toks := tk }) : codeAny (model PySem.Challenge.rw_rg0136_01.row.toRowW.prog w) (Ar dp un fr gd) (.call (.ref 378) ⟨[.int 5 way1, one, two, three], []⟩) R s := by
  refine Classical.byContradiction fun hn9 => ?_
  obtain ⟨b1, b2, b3⟩ := hide_base F₀ N₀
  (refine hn9 ?_; clear hn9)
  have X := X₀.keeps b1
  have T := T₀.keeps b1
  refine Classical.byContradiction fun hn9 => ?_
  obtain ⟨ta, aa, ka, na, rfl, hta, hla⟩ := h1
  (refine hn9 ?_; clear hn9)
  refine Classical.byContradiction fun hn9 => ?_
  obtain ⟨tb, ab, kb, nb, rfl, htb, hlb⟩ := h2
  (refine hn9 ?_; clear hn9)
  refine Classical.byContradiction fun hn9 => ?_
  obtain ⟨tc, ac, kc, nc, rfl, htc, hlc⟩ := h3
  (refine hn9 ?_; clear hn9)
  have hTa : Tup (Hs Em imm) ta [.ref aa, .int o1.2 ka] := ⟨na, hta⟩
  have hTb : Tup (Hs Em imm) tb [.ref ab, .int o2.2 kb] := ⟨nb, htb⟩
  have hTc : Tup (Hs Em imm) tc [.ref ac, .int o3.2 kc] := ⟨nc, htc⟩
  have hLa : ∃ vs : List Value, Lst (Hs Em imm) aa vs ∧ vs.length = o1.1.length := let ⟨vs, x, y⟩ := hla; ⟨vs, x, y.length⟩
  have hLb : ∃ vs : List Value, Lst (Hs Em imm) ab vs ∧ vs.length = o2.1.length := let ⟨vs, x, y⟩ := hlb; ⟨vs, x, y.length⟩
  have hLc : ∃ vs : List Value, Lst (Hs Em imm) ac vs ∧ vs.length = o3.1.length := let ⟨vs, x, y⟩ := hlc; ⟨vs, x, y.length⟩
  refine Classical.byContradiction fun hn9 => ?_
  obtain ⟨va, hLa, hva⟩ := hLa
  (refine hn9 ?_; clear hn9)
  refine Classical.byContradiction fun hn9 => ?_
  obtain ⟨vb, hLb, hvb⟩ := hLb
  (refine hn9 ?_; clear hn9)
  refine Classical.byContradiction fun hn9 => ?_
  obtain ⟨vc, hLc, hvc⟩ := hLc
  (refine hn9 ?_; clear hn9)
  refine' enter2 (K := kk.heap_1 _) (binds := [(Str.ofString "way", .int 5 way1), (Str.ofString "one", .ref ta), (Str.ofString "two", .ref tb), (Str.ofString "three", .ref tc)]) (hideAll s.heap (imm.map (·.1))) imm ?k3 ?k5 ?kk ?kz ?kp ?k6 ?k7 ?k8 ?k9 ?kB ?_ ?c2 ?c3 ?c4 ?c5; (case k6 => k_is); (case k7 => k_is); (case k8 => ktr_room); (case k9 => exact BindsTo.of_eq rfl); (case c5 => decide); (case kB => exact locs rfl); (case c2 => exact rfl); (case c3 => exact rfl); (case c4 => exact rfl)
  case k3 => exact X
  case k5 => exact TopRead.nolimit (T.keeps b2)
  case kk => exact b2
  case kz => exact Nat.le_of_eq (hideAll_size _ _)
  case kp => exact b3
  intro L' h₁ F N
  (try dsimp only)
  generalize hg : hideAll s.heap (imm.map (·.1)) = g at *
  have hem : Sub Em (hSt g) := fun _ _ e => e.elim
  k_steps
  unfold Hold
  rw [← hva, ← hvb] at hR
  k_dflt (refine' add_LL (xs := o1.1) (ys := [Op.pcatch ((va.length : Int) + 1 + (vb.length : Int) + 1)]) ?F ?N ?a ?b ?z ?_; (case F => k_asm); (case N => k_asm); (case a => exact hla.mono (hs_more (by (intro p9 hp9; (repeat' (refine List.mem_cons_of_mem _ ?_)); assumption)))); (case b => exact ⟨_, ⟨_, .inr (by k_mem)⟩, .cons ⟨_, _, _, rfl, _, .inr (by k_mem)⟩ .nil⟩); (case z => ((try simp only [List.length_append, List.length_map, List.length_cons, List.length_nil]); omega)))
  intro h5 D5 imm5 F5 N5 hs5 hl5
  have up5 : ∀ p ∈ imm, p ∈ imm5 := fun p hp => hs5 p (by revert hp; revert p; (intro p9 hp9; (repeat' (refine List.mem_cons_of_mem _ ?_)); assumption))
  have hTa := hTa.mono (hs_more up5)
  have hTb := hTb.mono (hs_more up5)
  have hTc := hTc.mono (hs_more up5)
  have hLa := hLa.mono (hs_more up5)
  have hLb := hLb.mono (hs_more up5)
  have hLc := hLc.mono (hs_more up5)
  (try dsimp only)
  k_steps
  unfold Hold
  k_dflt (refine' wpAny_call (moved_ok (imm := imm5) (ops := o2.1) ?F ?N ?X ?T ?D ?U ?a ?z ?_); (case F => k_asm); (case N => k_asm); (case X => exact X); (case T => exact T); (case D => ((try simp only [Ar, depth_deeper, units_deeper, recursionLimit, cLine] at *); omega)); (case U => ((try simp only [Ar, depth_deeper, units_deeper, recursionLimit, cLine] at *); omega)); (case a => exact hlb.mono (hs_more up5)); (case z => exact z2))
  intro h6 tk6 b6 hk6 hb6
  refine Classical.byContradiction fun hn9 => ?_
  obtain ⟨imm6, F6, N6, hs6, hb6⟩ := chain_back (imm := imm5) (by k_asm) (by k_asm) hk6 hb6 (fun _ h => h)
  (refine hn9 ?_; clear hn9)
  clear hk6
  have hTa := hTa.mono (hs_more hs6)
  have hTb := hTb.mono (hs_more hs6)
  have hTc := hTc.mono (hs_more hs6)
  have hLa := hLa.mono (hs_more hs6)
  have hLb := hLb.mono (hs_more hs6)
  have hLc := hLc.mono (hs_more hs6)
  (try dsimp only)
  k_steps
  unfold Hold
  k_dflt (refine' add_LL (xs := o1.1 ++ [Op.pcatch ((va.length : Int) + 1 + (vb.length : Int) + 1)]) (ys := o2.1.map (Op.move ((va.length : Int) + 1))) ?F ?N ?a ?b ?z ?_; (case F => k_asm); (case N => k_asm); (case a => exact hl5.mono (hs_more hs6)); (case b => exact hb6); (case z => ((try simp only [List.length_append, List.length_map, List.length_cons, List.length_nil]); omega)))
  intro h7 D7 imm7 F7 N7 hs7 hl7
  have up7 : ∀ p ∈ imm, p ∈ imm7 := fun p hp => hs7 p (hs6 p (up5 p hp))
  have hTa := hTa.mono (hs_more hs7)
  have hTb := hTb.mono (hs_more hs7)
  have hTc := hTc.mono (hs_more hs7)
  have hLa := hLa.mono (hs_more hs7)
  have hLb := hLb.mono (hs_more hs7)
  have hLc := hLc.mono (hs_more hs7)
  (try dsimp only)
  k_steps
  unfold Hold
  k_dflt (refine' add_LL (xs := o1.1 ++ [Op.pcatch ((va.length : Int) + 1 + (vb.length : Int) + 1)] ++ o2.1.map (Op.move ((va.length : Int) + 1))) (ys := [Op.pop]) ?F ?N ?a ?b ?z ?_; (case F => k_asm); (case N => k_asm); (case a => exact hl7.mono (hs_more (by (intro p9 hp9; (repeat' (refine List.mem_cons_of_mem _ ?_)); assumption)))); (case b => exact ⟨_, ⟨_, .inr (by k_mem)⟩, .cons ⟨_, _, _, rfl, _, .inr (by k_mem)⟩ (.nil)⟩); (case z => ((try simp only [List.length_append, List.length_map, List.length_cons, List.length_nil]); omega)))
  intro h8 D8 imm8 F8 N8 hs8 hl8
  have up78 : ∀ p ∈ imm7, p ∈ imm8 := fun p hp => hs8 p (by revert hp; revert p; (intro p9 hp9; (repeat' (refine List.mem_cons_of_mem _ ?_)); assumption))
  have up8 : ∀ p ∈ imm, p ∈ imm8 := fun p hp => up78 p (up7 p hp)
  have hTa := hTa.mono (hs_more up78)
  have hTb := hTb.mono (hs_more up78)
  have hTc := hTc.mono (hs_more up78)
  have hLa := hLa.mono (hs_more up78)
  have hLb := hLb.mono (hs_more up78)
  have hLc := hLc.mono (hs_more up78)
  (try dsimp only)
  k_steps
  have hfin : s.heap.StaysIn _ ∧ PoolAt (Ext (Hs Em imm) s.heap _) (.ref _) (o1.1 ++ [Op.pcatch ((va.length : Int) + 1 + (vb.length : Int) + 1)] ++ o2.1.map (Op.move ((va.length : Int) + 1)) ++ [Op.pop], max o1.2 o2.2) :=
    pool_end hg (by k_asm) (by k_asm) (fun p hp => (b3 p hp).1) (by k_mem) (hl8.mono (hs_more (by (intro p9 hp9; (repeat' (refine List.mem_cons_of_mem _ ?_)); assumption)))) (fun p hp => by have q := up8 p hp; clear hp; revert q; revert p; (intro p9 hp9; (repeat' (refine List.mem_cons_of_mem _ ?_)); assumption))
  exact hR _ _ _ hfin.1 hfin.2
theorem joined_6 {h₀ : Heap} {L : Addr} {m : Str → Option Value} {imm : List (Addr × Obj)} (F₀ : Fr h₀ L s.heap m) (N₀ : News h₀ L s.heap imm) (X₀ : (kk.heap_1 w.params).In h₀) (T₀ : TopRead vw (looseW vw [Str.ofString "ROWS"]) mg mb h₀) {way1 : Tok} {one two three : Value} {o1 o2 o3 : List Op × Int} (hD : dp + 9 ≤ 400) (hU : un + 120 ≤ 5000) (h1 : PoolAt (Hs Em imm) one o1) (h2 : PoolAt (Hs Em imm) two o2) (h3 : PoolAt (Hs Em imm) three o3) (hz : (o1.1 ++ [Op.gnil ((o1.1.length : Int) + 1 + (o2.1.length : Int) + 2)] ++ o2.1.map (Op.move ((o1.1.length : Int) + 1)) ++ [Op.discard, Op.goto 0, Op.const 0]).length ≤ 1000) (z1 : o1.1.length ≤ 1000) (z2 : o2.1.length ≤ 1000) (z3 : o3.1.length ≤ 1000) (hR : ∀ h' tk b, s.heap.StaysIn h' → PoolAt (Ext (Hs Em imm) s.heap h') b (o1.1 ++ [Op.gnil ((o1.1.length : Int) + 1 + (o2.1.length : Int) + 2)] ++ o2.1.map (Op.move ((o1.1.length : Int) + 1)) ++ [Op.discard, Op.goto 0, Op.const 0], max o1.2 o2.2) → R (.ok (.ret b)) { s with heap := h', toks := tk }) : codeAny (model PySem.Challenge.rw_rg0136_01.row.toRowW.prog w) (Ar dp un fr gd) (.call (.ref 378) ⟨[.int 6 way1, one, two, three], []⟩) R s := by
  refine Classical.byContradiction fun hn9 => ?_
  obtain ⟨b1, b2, b3⟩ := hide_base F₀ N₀
  (refine hn9 ?_; clear hn9)
  have X := X₀.keeps b1
  have T := T₀.keeps b1
  refine Classical.byContradiction fun hn9 => ?_
  obtain ⟨ta, aa, ka, na, rfl, hta, hla⟩ := h1
  (refine hn9 ?_; clear hn9)
  refine Classical.byContradiction fun hn9 => ?_
  obtain ⟨tb, ab, kb, nb, rfl, htb, hlb⟩ := h2
  (refine hn9 ?_; clear hn9)
  refine Classical.byContradiction fun hn9 => ?_
  obtain ⟨tc, ac, kc, nc, rfl, htc, hlc⟩ := h3
  (refine hn9 ?_; clear hn9)
  have hTa : Tup (Hs Em imm) ta [.ref aa, .int o1.2 ka] := ⟨na, hta⟩
  have hTb : Tup (Hs Em imm) tb [.ref ab, .int o2.2 kb] := ⟨nb, htb⟩
  have hTc : Tup (Hs Em imm) tc [.ref ac, .int o3.2 kc] := ⟨nc, htc⟩
  have hLa : ∃ vs : List Value, Lst (Hs Em imm) aa vs ∧ vs.length = o1.1.length := let ⟨vs, x, y⟩ := hla; ⟨vs, x, y.length⟩
  have hLb : ∃ vs : List Value, Lst (Hs Em imm) ab vs ∧ vs.length = o2.1.length := let ⟨vs, x, y⟩ := hlb; ⟨vs, x, y.length⟩
  have hLc : ∃ vs : List Value, Lst (Hs Em imm) ac vs ∧ vs.length = o3.1.length := let ⟨vs, x, y⟩ := hlc; ⟨vs, x, y.length⟩
  refine Classical.byContradiction fun hn9 => ?_
  obtain ⟨va, hLa, hva⟩ := hLa
  (refine hn9 ?_; clear hn9)
  refine Classical.byContradiction fun hn9 => ?_
  obtain ⟨vb, hLb, hvb⟩ := hLb
  (refine hn9 ?_; clear hn9)
  refine Classical.byContradiction fun hn9 => ?_
  obtain ⟨vc, hLc, hvc⟩ := hLc
  (refine hn9 ?_; clear hn9)
  refine' enter2 (K := kk.heap_1 _) (binds := [(Str.ofString "way", .int 6 way1), (Str.ofString "one", .ref ta), (Str.ofString "two", .ref tb), (Str.ofString "three", .ref tc)]) (hideAll s.heap (imm.map (·.1))) imm ?k3 ?k5 ?kk ?kz ?kp ?k6 ?k7 ?k8 ?k9 ?kB ?_ ?c2 ?c3 ?c4 ?c5; (case k6 => k_is); (case k7 => k_is); (case k8 => ktr_room); (case k9 => exact BindsTo.of_eq rfl); (case c5 => decide); (case kB => exact locs rfl); (case c2 => exact rfl); (case c3 => exact rfl); (case c4 => exact rfl)
  case k3 => exact X
  case k5 => exact TopRead.nolimit (T.keeps b2)
  case kk => exact b2
  case kz => exact Nat.le_of_eq (hideAll_size _ _)
  case kp => exact b3
  intro L' h₁ F N
  (try dsimp only)
  generalize hg : hideAll s.heap (imm.map (·.1)) = g at *
  have hem : Sub Em (hSt g) := fun _ _ e => e.elim
  k_steps
  unfold Hold
  rw [← hva, ← hvb] at hR
  k_dflt (refine' add_LL (xs := o1.1) (ys := [Op.gnil ((va.length : Int) + 1 + (vb.length : Int) + 2)]) ?F ?N ?a ?b ?z ?_; (case F => k_asm); (case N => k_asm); (case a => exact hla.mono (hs_more (by (intro p9 hp9; (repeat' (refine List.mem_cons_of_mem _ ?_)); assumption)))); (case b => exact ⟨_, ⟨_, .inr (by k_mem)⟩, .cons ⟨_, _, _, rfl, _, .inr (by k_mem)⟩ .nil⟩); (case z => ((try simp only [List.length_append, List.length_map, List.length_cons, List.length_nil]); omega)))
  intro h5 D5 imm5 F5 N5 hs5 hl5
  have up5 : ∀ p ∈ imm, p ∈ imm5 := fun p hp => hs5 p (by revert hp; revert p; (intro p9 hp9; (repeat' (refine List.mem_cons_of_mem _ ?_)); assumption))
  have hTa := hTa.mono (hs_more up5)
  have hTb := hTb.mono (hs_more up5)
  have hTc := hTc.mono (hs_more up5)
  have hLa := hLa.mono (hs_more up5)
  have hLb := hLb.mono (hs_more up5)
  have hLc := hLc.mono (hs_more up5)
  (try dsimp only)
  k_steps
  unfold Hold
  k_dflt (refine' wpAny_call (moved_ok (imm := imm5) (ops := o2.1) ?F ?N ?X ?T ?D ?U ?a ?z ?_); (case F => k_asm); (case N => k_asm); (case X => exact X); (case T => exact T); (case D => ((try simp only [Ar, depth_deeper, units_deeper, recursionLimit, cLine] at *); omega)); (case U => ((try simp only [Ar, depth_deeper, units_deeper, recursionLimit, cLine] at *); omega)); (case a => exact hlb.mono (hs_more up5)); (case z => exact z2))
  intro h6 tk6 b6 hk6 hb6
  refine Classical.byContradiction fun hn9 => ?_
  obtain ⟨imm6, F6, N6, hs6, hb6⟩ := chain_back (imm := imm5) (by k_asm) (by k_asm) hk6 hb6 (fun _ h => h)
  (refine hn9 ?_; clear hn9)
  clear hk6
  have hTa := hTa.mono (hs_more hs6)
  have hTb := hTb.mono (hs_more hs6)
  have hTc := hTc.mono (hs_more hs6)
  have hLa := hLa.mono (hs_more hs6)
  have hLb := hLb.mono (hs_more hs6)
  have hLc := hLc.mono (hs_more hs6)
  (try dsimp only)
  k_steps
  unfold Hold
  k_dflt (refine' add_LL (xs := o1.1 ++ [Op.gnil ((va.length : Int) + 1 + (vb.length : Int) + 2)]) (ys := o2.1.map (Op.move ((va.length : Int) + 1))) ?F ?N ?a ?b ?z ?_; (case F => k_asm); (case N => k_asm); (case a => exact hl5.mono (hs_more hs6)); (case b => exact hb6); (case z => ((try simp only [List.length_append, List.length_map, List.length_cons, List.length_nil]); omega)))
  intro h7 D7 imm7 F7 N7 hs7 hl7
  have up7 : ∀ p ∈ imm, p ∈ imm7 := fun p hp => hs7 p (hs6 p (up5 p hp))
  have hTa := hTa.mono (hs_more hs7)
  have hTb := hTb.mono (hs_more hs7)
  have hTc := hTc.mono (hs_more hs7)
  have hLa := hLa.mono (hs_more hs7)
  have hLb := hLb.mono (hs_more hs7)
  have hLc := hLc.mono (hs_more hs7)
  (try dsimp only)
  k_steps
  unfold Hold
  k_dflt (refine' add_LL (xs := o1.1 ++ [Op.gnil ((va.length : Int) + 1 + (vb.length : Int) + 2)] ++ o2.1.map (Op.move ((va.length : Int) + 1))) (ys := [Op.discard, Op.goto 0, Op.const 0]) ?F ?N ?a ?b ?z ?_; (case F => k_asm); (case N => k_asm); (case a => exact hl7.mono (hs_more (by (intro p9 hp9; (repeat' (refine List.mem_cons_of_mem _ ?_)); assumption)))); (case b => exact ⟨_, ⟨_, .inr (by k_mem)⟩, .cons ⟨_, _, _, rfl, _, .inr (by k_mem)⟩ (.cons ⟨_, _, _, rfl, _, .inr (by k_mem)⟩ (.cons ⟨_, _, _, rfl, _, .inr (by k_mem)⟩ (.nil)))⟩); (case z => ((try simp only [List.length_append, List.length_map, List.length_cons, List.length_nil]); omega)))
  intro h8 D8 imm8 F8 N8 hs8 hl8
  have up78 : ∀ p ∈ imm7, p ∈ imm8 := fun p hp => hs8 p (by revert hp; revert p; (intro p9 hp9; (repeat' (refine List.mem_cons_of_mem _ ?_)); assumption))
  have up8 : ∀ p ∈ imm, p ∈ imm8 := fun p hp => up78 p (up7 p hp)
  have hTa := hTa.mono (hs_more up78)
  have hTb := hTb.mono (hs_more up78)
  have hTc := hTc.mono (hs_more up78)
  have hLa := hLa.mono (hs_more up78)
  have hLb := hLb.mono (hs_more up78)
  have hLc := hLc.mono (hs_more up78)
  (try dsimp only)
  k_steps
  have hfin : s.heap.StaysIn _ ∧ PoolAt (Ext (Hs Em imm) s.heap _) (.ref _) (o1.1 ++ [Op.gnil ((va.length : Int) + 1 + (vb.length : Int) + 2)] ++ o2.1.map (Op.move ((va.length : Int) + 1)) ++ [Op.discard, Op.goto 0, Op.const 0], max o1.2 o2.2) :=
    pool_end hg (by k_asm) (by k_asm) (fun p hp => (b3 p hp).1) (by k_mem) (hl8.mono (hs_more (by (intro p9 hp9; (repeat' (refine List.mem_cons_of_mem _ ?_)); assumption)))) (fun p hp => by have q := up8 p hp; clear hp; revert q; revert p; (intro p9 hp9; (repeat' (refine List.mem_cons_of_mem _ ?_)); assumption))
  exact hR _ _ _ hfin.1 hfin.2
theorem joined_1 {h₀ : Heap} {L : Addr} {m : Str → Option Value} {imm : List (Addr × Obj)} (F₀ : Fr h₀ L s.heap m) (N₀ : News h₀ L s.heap imm) (X₀ : (kk.heap_1 w.params).In h₀) (T₀ : TopRead vw (looseW vw [Str.ofString "ROWS"]) mg mb h₀) {way1 : Tok} {one two three : Value} {o1 o2 o3 : List Op × Int} (hD : dp + 9 ≤ 400) (hU : un + 120 ≤ 5000) (h1 : PoolAt (Hs Em imm) one o1) (h2 : PoolAt (Hs Em imm) two o2) (h3 : PoolAt (Hs Em imm) three o3) (hz : (o1.1 ++ [Op.gnil ((o1.1.length : Int) + 1 + (o2.1.length : Int) + 1)] ++ o2.1.map (Op.move ((o1.1.length : Int) + 1)) ++ [Op.goto ((o1.1.length : Int) + 1 + (o2.1.length : Int) + 1 + (o3.1.length : Int))] ++ o3.1.map (Op.move ((o1.1.length : Int) + 1 + (o2.1.length : Int) + 1))).length ≤ 1000) (z1 : o1.1.length ≤ 1000) (z2 : o2.1.length ≤ 1000) (z3 : o3.1.length ≤ 1000) (hR : ∀ h' tk b, s.heap.StaysIn h' → PoolAt (Ext (Hs Em imm) s.heap h') b (o1.1 ++ [Op.gnil ((o1.1.length : Int) + 1 + (o2.1.length : Int) + 1)] ++ o2.1.map (Op.move ((o1.1.length : Int) + 1)) ++ [Op.goto ((o1.1.length : Int) + 1 + (o2.1.length : Int) + 1 + (o3.1.length : Int))] ++ o3.1.map (Op.move ((o1.1.length : Int) + 1 + (o2.1.length : Int) + 1)), max (max o1.2 o2.2) o3.2) → R (.ok (.ret b)) { s with heap := h', toks := tk }) : codeAny (model PySem.Challenge.rw_rg0136_01.row.toRowW.prog w) (Ar dp un fr gd) (.call (.ref 378) ⟨[.int 1 way1, one, two, three], []⟩) R s := by
  refine Classical.byContradiction fun hn9 => ?_
  obtain ⟨b1, b2, b3⟩ := hide_base F₀ N₀
  (refine hn9 ?_; clear hn9)
  have X := X₀.keeps b1
  have T := T₀.keeps b1
  refine Classical.byContradiction fun hn9 => ?_
  obtain ⟨ta, aa, ka, na, rfl, hta, hla⟩ := h1
  (refine hn9 ?_; clear hn9)
  refine Classical.byContradiction fun hn9 => ?_
  obtain ⟨tb, ab, kb, nb, rfl, htb, hlb⟩ := h2
  (refine hn9 ?_; clear hn9)
  refine Classical.byContradiction fun hn9 => ?_
  obtain ⟨tc, ac, kc, nc, rfl, htc, hlc⟩ := h3
  (refine hn9 ?_; clear hn9)
  have hTa : Tup (Hs Em imm) ta [.ref aa, .int o1.2 ka] := ⟨na, hta⟩
  have hTb : Tup (Hs Em imm) tb [.ref ab, .int o2.2 kb] := ⟨nb, htb⟩
  have hTc : Tup (Hs Em imm) tc [.ref ac, .int o3.2 kc] := ⟨nc, htc⟩
  have hLa : ∃ vs : List Value, Lst (Hs Em imm) aa vs ∧ vs.length = o1.1.length := let ⟨vs, x, y⟩ := hla; ⟨vs, x, y.length⟩
  have hLb : ∃ vs : List Value, Lst (Hs Em imm) ab vs ∧ vs.length = o2.1.length := let ⟨vs, x, y⟩ := hlb; ⟨vs, x, y.length⟩
  have hLc : ∃ vs : List Value, Lst (Hs Em imm) ac vs ∧ vs.length = o3.1.length := let ⟨vs, x, y⟩ := hlc; ⟨vs, x, y.length⟩
  refine Classical.byContradiction fun hn9 => ?_
  obtain ⟨va, hLa, hva⟩ := hLa
  (refine hn9 ?_; clear hn9)
  refine Classical.byContradiction fun hn9 => ?_
  obtain ⟨vb, hLb, hvb⟩ := hLb
  (refine hn9 ?_; clear hn9)
  refine Classical.byContradiction fun hn9 => ?_
  obtain ⟨vc, hLc, hvc⟩ := hLc
  (refine hn9 ?_; clear hn9)
  refine' enter2 (K := kk.heap_1 _) (binds := [(Str.ofString "way", .int 1 way1), (Str.ofString "one", .ref ta), (Str.ofString "two", .ref tb), (Str.ofString "three", .ref tc)]) (hideAll s.heap (imm.map (·.1))) imm ?k3 ?k5 ?kk ?kz ?kp ?k6 ?k7 ?k8 ?k9 ?kB ?_ ?c2 ?c3 ?c4 ?c5; (case k6 => k_is); (case k7 => k_is); (case k8 => ktr_room); (case k9 => exact BindsTo.of_eq rfl); (case c5 => decide); (case kB => exact locs rfl); (case c2 => exact rfl); (case c3 => exact rfl); (case c4 => exact rfl)
  case k3 => exact X
  case k5 => exact TopRead.nolimit (T.keeps b2)
  case kk => exact b2
  case kz => exact Nat.le_of_eq (hideAll_size _ _)
  case kp => exact b3
  intro L' h₁ F N
  (try dsimp only)
  generalize hg : hideAll s.heap (imm.map (·.1)) = g at *
  have hem : Sub Em (hSt g) := fun _ _ e => e.elim
  k_steps
  unfold Hold
  rw [← hva, ← hvb, ← hvc] at hR
  k_dflt (refine' add_LL (xs := o1.1) (ys := [Op.gnil ((va.length : Int) + 1 + (vb.length : Int) + 1)]) ?F ?N ?a ?b ?z ?_; (case F => k_asm); (case N => k_asm); (case a => exact hla.mono (hs_more (by (intro p9 hp9; (repeat' (refine List.mem_cons_of_mem _ ?_)); assumption)))); (case b => exact ⟨_, ⟨_, .inr (by k_mem)⟩, .cons ⟨_, _, _, rfl, _, .inr (by k_mem)⟩ .nil⟩); (case z => ((try simp only [List.length_append, List.length_map, List.length_cons, List.length_nil]); omega)))
  intro h5 D5 imm5 F5 N5 hs5 hl5
  have up5 : ∀ p ∈ imm, p ∈ imm5 := fun p hp => hs5 p (by revert hp; revert p; (intro p9 hp9; (repeat' (refine List.mem_cons_of_mem _ ?_)); assumption))
  have hTa := hTa.mono (hs_more up5)
  have hTb := hTb.mono (hs_more up5)
  have hTc := hTc.mono (hs_more up5)
  have hLa := hLa.mono (hs_more up5)
  have hLb := hLb.mono (hs_more up5)
  have hLc := hLc.mono (hs_more up5)
  (try dsimp only)
  k_steps
  unfold Hold
  k_dflt (refine' wpAny_call (moved_ok (imm := imm5) (ops := o2.1) ?F ?N ?X ?T ?D ?U ?a ?z ?_); (case F => k_asm); (case N => k_asm); (case X => exact X); (case T => exact T); (case D => ((try simp only [Ar, depth_deeper, units_deeper, recursionLimit, cLine] at *); omega)); (case U => ((try simp only [Ar, depth_deeper, units_deeper, recursionLimit, cLine] at *); omega)); (case a => exact hlb.mono (hs_more up5)); (case z => exact z2))
  intro h6 tk6 b6 hk6 hb6
  refine Classical.byContradiction fun hn9 => ?_
  obtain ⟨imm6, F6, N6, hs6, hb6⟩ := chain_back (imm := imm5) (by k_asm) (by k_asm) hk6 hb6 (fun _ h => h)
  (refine hn9 ?_; clear hn9)
  clear hk6
  have hTa := hTa.mono (hs_more hs6)
  have hTb := hTb.mono (hs_more hs6)
  have hTc := hTc.mono (hs_more hs6)
  have hLa := hLa.mono (hs_more hs6)
  have hLb := hLb.mono (hs_more hs6)
  have hLc := hLc.mono (hs_more hs6)
  (try dsimp only)
  k_steps
  unfold Hold
  k_dflt (refine' add_LL (xs := o1.1 ++ [Op.gnil ((va.length : Int) + 1 + (vb.length : Int) + 1)]) (ys := o2.1.map (Op.move ((va.length : Int) + 1))) ?F ?N ?a ?b ?z ?_; (case F => k_asm); (case N => k_asm); (case a => exact hl5.mono (hs_more hs6)); (case b => exact hb6); (case z => ((try simp only [List.length_append, List.length_map, List.length_cons, List.length_nil]); omega)))
  intro h7 D7 imm7 F7 N7 hs7 hl7
  have up7 : ∀ p ∈ imm, p ∈ imm7 := fun p hp => hs7 p (hs6 p (up5 p hp))
  have hTa := hTa.mono (hs_more hs7)
  have hTb := hTb.mono (hs_more hs7)
  have hTc := hTc.mono (hs_more hs7)
  have hLa := hLa.mono (hs_more hs7)
  have hLb := hLb.mono (hs_more hs7)
  have hLc := hLc.mono (hs_more hs7)
  (try dsimp only)
  k_steps
  unfold Hold
  k_dflt (refine' add_LL (xs := o1.1 ++ [Op.gnil ((va.length : Int) + 1 + (vb.length : Int) + 1)] ++ o2.1.map (Op.move ((va.length : Int) + 1))) (ys := [Op.goto ((va.length : Int) + 1 + (vb.length : Int) + 1 + (vc.length : Int))]) ?F ?N ?a ?b ?z ?_; (case F => k_asm); (case N => k_asm); (case a => exact hl7.mono (hs_more (by (intro p9 hp9; (repeat' (refine List.mem_cons_of_mem _ ?_)); assumption)))); (case b => exact ⟨_, ⟨_, .inr (by k_mem)⟩, .cons ⟨_, _, _, rfl, _, .inr (by k_mem)⟩ .nil⟩); (case z => ((try simp only [List.length_append, List.length_map, List.length_cons, List.length_nil]); omega)))
  intro h8 D8 imm8 F8 N8 hs8 hl8
  have up78 : ∀ p ∈ imm7, p ∈ imm8 := fun p hp => hs8 p (by revert hp; revert p; (intro p9 hp9; (repeat' (refine List.mem_cons_of_mem _ ?_)); assumption))
  have up8 : ∀ p ∈ imm, p ∈ imm8 := fun p hp => up78 p (up7 p hp)
  have hTa := hTa.mono (hs_more up78)
  have hTb := hTb.mono (hs_more up78)
  have hTc := hTc.mono (hs_more up78)
  have hLa := hLa.mono (hs_more up78)
  have hLb := hLb.mono (hs_more up78)
  have hLc := hLc.mono (hs_more up78)
  (try dsimp only)
  k_steps
  unfold Hold
  k_dflt (refine' wpAny_call (moved_ok (imm := imm8) (ops := o3.1) ?F ?N ?X ?T ?D ?U ?a ?z ?_); (case F => k_asm); (case N => k_asm); (case X => exact X); (case T => exact T); (case D => ((try simp only [Ar, depth_deeper, units_deeper, recursionLimit, cLine] at *); omega)); (case U => ((try simp only [Ar, depth_deeper, units_deeper, recursionLimit, cLine] at *); omega)); (case a => exact hlc.mono (hs_more up8)); (case z => exact z3))
  intro h9 tk9 b9 hk9 hb9
  refine Classical.byContradiction fun hn9 => ?_
  obtain ⟨imm9, F9, N9, hs9, hb9⟩ := chain_back (imm := imm8) (by k_asm) (by k_asm) hk9 hb9 (fun _ h => h)
  (refine hn9 ?_; clear hn9)
  clear hk9
  have hTa := hTa.mono (hs_more hs9)
  have hTb := hTb.mono (hs_more hs9)
  have hTc := hTc.mono (hs_more hs9)
  have hLa := hLa.mono (hs_more hs9)
  have hLb := hLb.mono (hs_more hs9)
  have hLc := hLc.mono (hs_more hs9)
  (try dsimp only)
  k_steps
  unfold Hold
  k_dflt (refine' add_LL (xs := o1.1 ++ [Op.gnil ((va.length : Int) + 1 + (vb.length : Int) + 1)] ++ o2.1.map (Op.move ((va.length : Int) + 1)) ++ [Op.goto ((va.length : Int) + 1 + (vb.length : Int) + 1 + (vc.length : Int))]) (ys := o3.1.map (Op.move ((va.length : Int) + 1 + (vb.length : Int) + 1))) ?F ?N ?a ?b ?z ?_; (case F => k_asm); (case N => k_asm); (case a => exact hl8.mono (hs_more hs9)); (case b => exact hb9); (case z => ((try simp only [List.length_append, List.length_map, List.length_cons, List.length_nil]); omega)))
  intro h10 D10 imm10 F10 N10 hs10 hl10
  have up10 : ∀ p ∈ imm, p ∈ imm10 := fun p hp => hs10 p (hs9 p (up8 p hp))
  have hTa := hTa.mono (hs_more hs10)
  have hTb := hTb.mono (hs_more hs10)
  have hTc := hTc.mono (hs_more hs10)
  have hLa := hLa.mono (hs_more hs10)
  have hLb := hLb.mono (hs_more hs10)
  have hLc := hLc.mono (hs_more hs10)
  (try dsimp only)
  k_steps
  have hfin : s.heap.StaysIn _ ∧ PoolAt (Ext (Hs Em imm) s.heap _) (.ref _) (o1.1 ++ [Op.gnil ((va.length : Int) + 1 + (vb.length : Int) + 1)] ++ o2.1.map (Op.move ((va.length : Int) + 1)) ++ [Op.goto ((va.length : Int) + 1 + (vb.length : Int) + 1 + (vc.length : Int))] ++ o3.1.map (Op.move ((va.length : Int) + 1 + (vb.length : Int) + 1)), max (max o1.2 o2.2) o3.2) :=
    pool_end hg (by k_asm) (by k_asm) (fun p hp => (b3 p hp).1) (by k_mem) (hl10.mono (hs_more (by (intro p9 hp9; (repeat' (refine List.mem_cons_of_mem _ ?_)); assumption)))) (fun p hp => by have q := up10 p hp; clear hp; revert q; revert p; (intro p9 hp9; (repeat' (refine List.mem_cons_of_mem _ ?_)); assumption))
  exact hR _ _ _ hfin.1 hfin.2
end
end
end Mine
end
section
open PySem PySem.W PyProof.Rows PySem.Calls
set_option maxRecDepth 100000
set_option maxHeartbeats 1000000
namespace Mine
local macro_rules | `(tactic| walk_at "call builtin:list.pop") => `(tactic| (tbr_iter (1, "list.pop"); k_dflt (refine' pop_L ?F ?N ?U ?z ?_; walk_at "FN"; (case U => k_upd); walk_at "zm"); walk_at "aN"))
local macro_rules | `(tactic| walk_at "compareOp NotEq ref ref") => `(tactic| (tbr_iter (3, CmpOp.NotEq); k_dflt (refine' neNilV ?l ?e ?u ?_; walk_at "el"; walk_at "u"; (first | rw [snoc_empty] | rw [nil_empty] | skip))))
local macro_rules | `(tactic| walk_at "call builtin:len") => `(tactic| (tbr_iter (1, "len"); k_dflt (refine' len_V ?l ?z ?_; (case l => first | walk_at "nl" | exact Fr.lst (by k_asm) (by assumption)); (case z => first | assumption | walk_at "ml"); intro t9 tk9)))
local macro_rules | `(tactic| walk_at "binaryOp Mult ref int") => `(tactic| (k_here; k_dflt (refine' mul_one ?F ?N ?l ?a ?b ?_; walk_at "FN"; (case l => k_mem); (case a => omega); (case b => omega); intro h' l' F' N' l1; (try k_lt l1))))
section
variable {w : World} {s : Shared} {mg mb : Str → Option Value} {dp un : Nat} {fr : Option (List Env)} {gd : Option (List Code)} {R : Result → Shared → Prop}
theorem dip_ok {h₀ : Heap} {L : Addr} {m : Str → Option Value} {news : List (Addr × Obj)} (F₀ : Fr h₀ L s.heap m) (N₀ : News h₀ L s.heap news) (X₀ : (kk.heap_1 w.params).In h₀) (T₀ : TopRead vw (looseW vw [Str.ofString "ROWS"]) mg mb h₀) (hD : dp + 3 ≤ 400) {pot cl : Addr} {ca za many : Int} {t1 t2 t3 : Tok} {pn cn : Nat} {cvs : List Value} {cs : List Int}
    (hpot : (pot, lstObj [.ref cl, .int ca t1, .int za t2] pn) ∈ news) (hcl : s.heap.get? cl = some (lstObj cvs cn)) (hne : cl ≠ pot) (hcs : IntsAre cvs cs) (hz : cs.length ≤ 100) (hc0 : ∀ c ∈ cs, 0 ≤ c ∧ c < 1000003) (h0 : 0 ≤ ca) (h1 : ca ≤ 1000) (h2 : 0 ≤ za) (h3 : za < 100000) (hm : 0 < many) (hm2 : many ≤ 100)
    (hR : ∀ h' tk r t ca' za' u1 u2 n', (∀ b o, b ≠ pot → s.heap.get? b = some o → h'.get? b = some o) → h'.get? pot = some (lstObj [.ref cl, .int ca' u1, .int za' u2] n') → ca' = ca + 1 → 0 ≤ za' → za' < 100000 → 0 ≤ r → r < many → R (.ok (.ret (.int r t))) { s with heap := h', toks := tk }) : codeAny (model PySem.Challenge.rw_rg0136_01.row.toRowW.prog w) (Ar dp un fr gd) (.call (.ref 352) ⟨[.ref pot, .int many t3], []⟩) R s := by
  have b0 := N₀ _ hpot
  have b1 : h₀.StaysIn (hideAll s.heap [pot]) := fun b o e => hideAll_get _ (F₀.keep b o e) (fun q => by
    rw [List.mem_singleton.mp q, b0.2.2] at e; cases e)
  have b2 : (hideAll s.heap [pot]).StaysIn s.heap := fun b o e => of_hideAll _ e
  have X := X₀.keeps b1
  have T := T₀.keeps b1
  have hclg : (hideAll s.heap [pot]).get? cl = some (lstObj cvs cn) := hideAll_get _ hcl (fun q => hne (List.mem_singleton.mp q))
  refine' enter2 (K := kk.heap_1 _) (binds := [(Str.ofString "pot", .ref pot), (Str.ofString "many", .int many t3)]) (hideAll s.heap [pot]) [(pot, lstObj [.ref cl, .int ca t1, .int za t2] pn)] ?k3 ?k5 ?kk ?kz ?kp ?k6 ?k7 ?k8 ?k9 ?kB ?_ ?c2 ?c3 ?c4 ?c5; (case k6 => k_is); (case k7 => k_is); (case k8 => ktr_room); (case k9 => exact BindsTo.of_eq rfl); (case c5 => decide); (case kB => exact locs rfl); (case c2 => exact rfl); (case c3 => exact rfl); (case c4 => exact rfl)
  case k3 => exact X
  case k5 => exact TopRead.nolimit (T.keeps b2)
  case kk => exact b2
  case kz => exact Nat.le_of_eq (hideAll_size _ _)
  case kp => exact List.forall_mem_cons.mpr ⟨⟨b0.1, hideAll_none _ (.head _)⟩, List.forall_mem_nil _⟩
  intro L' h₁ F N
  (try dsimp only)
  generalize hg : hideAll s.heap [pot] = g at *
  have hcL : g.IsList cl cvs.toArray := ⟨_, hclg, rfl, _, rfl⟩
  k_steps
  all_goals (
    have hst : ∀ b o, b ≠ pot → s.heap.get? b = some o → Heap.get? _ b = some o := fun b o hb e => Fr.keep (by k_asm : Fr g L' _ _) b o (hg ▸ hideAll_get _ e (fun q => hb (List.mem_singleton.mp q)))
    have hp9 := News.get (by k_asm : News g L' _ _) (List.Mem.head _)
    refine hR _ _ _ _ _ _ _ _ _ hst hp9 rfl ?_ ?_ (Int.fmod_nonneg_of_pos _ hm) (Int.fmod_lt_of_pos _ hm))
  all_goals first | assumption | exact Int.fmod_nonneg_of_pos _ (by decide) | exact Int.lt_trans (Int.fmod_lt_of_pos _ (by decide)) (by decide)
end
end Mine
end
section
open PySem PySem.W PyProof.Rows PySem.Calls
set_option maxRecDepth 100000
set_option maxHeartbeats 1000000
namespace Mine
section
variable {M : Model} {A : Around} {E : Value → Shared → Prop} {s : Shared} {K : Frag} {h₀ : Heap} {L : Addr} {m mg mb : Str → Option Value} {p : Program} {loose : List Str} {env : Env} {x : Str} {pos : Pos} {v : Value} {Q : Value → Shared → Prop}
theorem nameC_B (F : Fr h₀ L s.heap m) (X : K.In h₀) (T : TopRead p loose mg mb h₀) (e : nsIn K mainGlobals x = some none) (hv : bootBuiltins x = some v) (hn : x ≠ "__name__") (h : Q v s) (hg : env.globals = mainGlobals) (hb : env.builtins = builtinsNs) (hk : env.scope.kind = .function) (hx : env.kindOf x = some .globalImplicit)
    (hd : (x == ("__debug__" : Str)) = false := by decide) : wpAny M A (eval (.Name x pos) env) Q E s :=
  Name_function_global hk hx (loadGlobal_builtin (hg ▸ T.g.keeps F.keep) (mg_none_of X T.g e) (hb ▸ T.b.keeps F.keep) ((T.builtins x hn).trans hv) h) hd
theorem nameC_K (F : Fr h₀ L s.heap m) (X : K.In h₀) (T : TopRead p loose mg mb h₀) (e : nsIn K mainGlobals x = some (some v)) (h : Q v s) (hg : env.globals = mainGlobals) (hk : env.scope.kind = .function) (hx : env.kindOf x = some .globalImplicit)
    (hd : (x == ("__debug__" : Str)) = false := by decide) : wpAny M A (eval (.Name x pos) env) Q E s :=
  Name_function_global hk hx (loadGlobal_global (hg ▸ T.g.keeps F.keep) (mg_of X T.g e) h) hd
end
local macro_rules | `(tactic| walk_at "eval Name") => `(tactic| (k_here; (with_reducible show wpAny _ _ (eval _ (compEnvC _ _ _ _)) _ _ _); k_dflt (refine' nameC_B ?F ?X ?T ?e ?v ?n ?_ rfl rfl rfl rfl; (case F => k_asm); walk_at "XT"; (case e => k_is); (case v => boot_by_name); (case n => decide))))
local macro_rules | `(tactic| walk_at "eval Name") => `(tactic| (k_here; (with_reducible show wpAny _ _ (eval _ (compEnvC _ _ _ _)) _ _ _); k_dflt (refine' nameC_K ?F ?X ?T ?e ?_ rfl rfl rfl; (case F => k_asm); walk_at "XT"; (case e => k_is))))
section
variable {w : World} {s : Shared} {mg mb : Str → Option Value} {dp un : Nat} {fr : Option (List Env)} {gd : Option (List Code)} {R : Result → Shared → Prop}
theorem pot_ok {sc : Addr} {vs : List Value} {ns : List Int} (X : (kk.heap_1 w.params).In s.heap) (T : TopRead vw (looseW vw [Str.ofString "ROWS"]) mg mb s.heap) (hD : dp + 3 ≤ 400) (hU : un + 60 ≤ 5000) (hs : s.heap.IsList sc vs.toArray) (hi : IntsAre vs ns) (hz : ns.length ≤ 63)
    (hlay : PyData.layable0 (.list (ns.map .int)) = true)
    (hR : ∀ h' tk p cl cvs cs t1 z t2 n1 n2, s.heap.StaysIn h' → s.heap.get? p = none → s.heap.get? cl = none → h'.get? p = some (lstObj [.ref cl, .int 0 t1, .int z t2] n1) → h'.get? cl = some (lstObj cvs n2) → IntsAre cvs cs → cs.length ≤ 48 → (∀ c ∈ cs, 0 ≤ c ∧ c < 1000003) → 31 ≤ z → z < 100000 → R (.ok (.ret (.ref p))) { s with heap := h', toks := tk }) : codeAny (model PySem.Challenge.rw_rg0136_01.row.toRowW.prog w) (Ar dp un fr gd) (.call (.ref 345) ⟨[.ref sc], []⟩) R s := by
  refine' enter (K := kk.heap_1 _) (binds := [(Str.ofString "script", .ref sc)]) ?k3 ?k5 ?k6 ?k7 ?k8 ?k9 ?kB ?_ ?c2 ?c3 ?c4 ?c5; (case k3 => assumption); (case k5 => exact TopRead.nolimit (by k_asm)); (case k6 => k_is); (case k7 => k_is); (case k8 => ktr_room); (case k9 => exact BindsTo.of_eq rfl); (case c5 => decide); (case kB => exact locs rfl); (case c2 => exact rfl); (case c3 => exact rfl); (case c4 => exact rfl); intro L' h₁ F N; (try dsimp only); k_fold
  k_steps
  refine' hR _ _ _ _ _ _ _ _ _ _ _ ?k ?a ?b ?c ?d ?e ?f ?g ?h ?i
  case k => exact Fr.keep (by k_asm)
  case c => exact News.get (by k_asm) (by k_mem)
  case a => exact News.fresh (by k_asm) (by k_mem)
  case d => exact News.get (by k_asm) (List.Mem.tail _ (by k_mem))
  case b => exact News.fresh (by k_asm) (List.Mem.tail _ (by k_mem))
  case e => assumption
  case f => rw [List.length_map, List.length_take]; omega
  case g =>
    intro c hc
    refine Classical.byContradiction fun hn9 => ?_
    obtain ⟨x, _, rfl⟩ := List.mem_map.mp hc
    (refine hn9 ?_; clear hn9)
    exact ⟨Int.fmod_nonneg_of_pos _ (by decide), Int.fmod_lt_of_pos _ (by decide)⟩
  case h => exact Int.le_add_of_nonneg_right (Int.fmod_nonneg_of_pos _ (by decide))
  case i => exact Int.lt_trans (Int.add_lt_add_left (Int.fmod_lt_of_pos _ (by decide)) 31) (by decide)
end
end Mine
end
section
open PySem PySem.W PyProof.Rows PySem.Calls
set_option maxRecDepth 100000
set_option maxHeartbeats 1000000
namespace Mine
section
variable {w : World} {s : Shared} {mg mb : Str → Option Value} {dp un : Nat} {fr : Option (List Env)} {gd : Option (List Code)} {R : Result → Shared → Prop}
theorem own_new {tt : Tok} (X : (kk.heap_1 w.params).In s.heap) (T : TopRead vw (looseW vw [Str.ofString "ROWS"]) mg mb s.heap) (hD : dp + 2 ≤ 400)
    (hR : ∀ h' tk x d l1 l2 h1 h2 h3 h4 h5 h6 k1 k2 k3 k4 k5 k6 td, s.heap.StaysIn h' → s.heap.get? x = none → s.heap.get? d = none → @Ne Nat x d → h'.get? x = some (instObj 219 d) → h'.get? d = some (ownDict h1 h2 h3 h4 h5 h6 k1 k2 k3 k4 k5 k6 tt td l1 l2 0) → R (.ok (.ret (.ref x))) { s with heap := h', toks := tk }) :
    codeAny (model PySem.Challenge.rw_rg0136_01.row.toRowW.prog w) (Ar dp un fr gd) (.call (.ref 219) ⟨[.str (Str.ofString "law") tt, .none], []⟩) R s := by
  refine Classical.byContradiction fun hn9 => ?_
  obtain ⟨hh, gg, dd, tk0, oo⟩ := s
  (refine hn9 ?_; clear hn9)
  have k1 : hh.StaysIn ((hh.push (dictOf [] 0)).push (instObj 219 hh.objs.size)) := fun b o e => Heap.get?_push_of_some _ (Heap.get?_push_of_some _ e)
  have hx : ((hh.push (dictOf [] 0)).push (instObj 219 hh.objs.size)).get? (hh.objs.size + 1) = some (instObj 219 hh.objs.size) := by heap_get
  have hdd : ((hh.push (dictOf [] 0)).push (instObj 219 hh.objs.size)).get? hh.objs.size = some (dictOf [] 0) := by heap_get
  have n1 : hh.get? hh.objs.size = none := Heap.get?_none_of_le (Nat.le_refl _)
  have n2 : hh.get? (hh.objs.size + 1) = none := Heap.get?_none_of_le (Nat.le_succ _)
  have hz : hh.objs.size ≤ ((hh.push (dictOf [] 0)).push (instObj 219 hh.objs.size)).objs.size := by rw [Heap.size_push, Heap.size_push]; omega
  refine make_core (init := .ref 188) (makes_of X (by k_is)) (looks_findIn X (by k_is)) (fun self => bind_fn X self (by k_is)) (.inl rfl) ?_
  refine' enter2 (K := kk.heap_1 _) (binds := [(Str.ofString "self", .ref (hh.objs.size + 1)), (Str.ofString "title", .str (Str.ofString "law") tt), (Str.ofString "told", .none)]) hh [(hh.objs.size + 1, instObj 219 hh.objs.size), (hh.objs.size, dictOf [] 0)] ?k3 ?k5 ?kk ?kz ?kp ?k6 ?k7 ?k8 ?k9 ?kB ?_ ?c2 ?c3 ?c4 ?c5; (case k6 => k_is); (case k7 => k_is); (case k8 => ktr_room); (case k9 => exact BindsTo.of_eq rfl); (case c5 => decide); (case kB => exact locs rfl); (case c2 => exact rfl); (case c3 => exact rfl); (case c4 => exact rfl)
  case k3 => exact X
  case k5 => exact TopRead.nolimit (T.keeps k1)
  case kk => exact k1
  case kz => exact hz
  case kp => exact List.forall_mem_cons.mpr ⟨⟨hx, n2⟩, List.forall_mem_cons.mpr ⟨⟨hdd, n1⟩, List.forall_mem_nil _⟩⟩
  intro L' h₁ F N
  (try dsimp only)
  generalize hx9 : hh.objs.size + 1 = x at *
  have hne : hh.objs.size < x := by omega
  generalize hd9 : hh.objs.size = d at *
  k_steps
  exact ⟨rfl, hR _ _ _ _ _ _ _ _ _ _ _ _ _ _ _ _ _ _ _ (Fr.keep (by k_asm)) n2 n1 (by omega) (News.get (by k_asm) (by k_mem)) (News.get (by k_asm) (by k_mem))⟩
end
end Mine
end
section
open PySem PySem.W PyProof.Rows PySem.Calls
set_option maxRecDepth 100000
set_option maxHeartbeats 1000000
namespace Mine
local macro_rules | `(tactic| walk_at "nowhere 0") => `(tactic| skip)
section
variable {w : World} {s : Shared} {mg mb : Str → Option Value} {dp un : Nat} {fr : Option (List Env)} {gd : Option (List Code)} {R : Result → Shared → Prop}
theorem filled_ok {h₀ : Heap} {L : Addr} {m : Str → Option Value} {news : List (Addr × Obj)} (F₀ : Fr h₀ L s.heap m) (N₀ : News h₀ L s.heap news) (X₀ : (kk.heap_1 w.params).In h₀) (T₀ : TopRead vw (looseW vw [Str.ofString "ROWS"]) mg mb h₀) (hD : dp + 2 ≤ 400) {x d cl kl cl' kl' : Addr} {dep dep' : Int} {h1 h2 h3 h4 h5 h6 : Int} {k1 k2 k3 k4 k5 k6 tt td td' : Tok}
    (hx : (x, instObj 219 d) ∈ news) (hdm : (d, ownDict h1 h2 h3 h4 h5 h6 k1 k2 k3 k4 k5 k6 tt td cl kl dep) ∈ news) (hne : @Ne Nat x d)
    (hR : ∀ h' tk h1 h2 h3 h4 h5 h6 k1 k2 k3 k4 k5 k6 td, (∀ b o, b ≠ d → s.heap.get? b = some o → h'.get? b = some o) → h'.get? d = some (ownDict h1 h2 h3 h4 h5 h6 k1 k2 k3 k4 k5 k6 tt td cl' kl' dep') → R (.ok (.ret .none)) { s with heap := h', toks := tk }) :
    codeAny (model PySem.Challenge.rw_rg0136_01.row.toRowW.prog w) (Ar dp un fr gd) (.call (.ref 216) ⟨[.ref x, .ref cl', .ref kl', .int dep' td'], []⟩) R s := by
  have b0 := N₀ _ hx
  have b9 := N₀ _ hdm
  have b1 : h₀.StaysIn (hideAll s.heap [x, d]) := fun b o e => hideAll_get _ (F₀.keep b o e) (fun q => by
    rcases List.mem_cons.mp q with q | q
    · rw [q, b0.2.2] at e; cases e
    · rw [List.mem_singleton.mp q, b9.2.2] at e; cases e)
  have b2 : (hideAll s.heap [x, d]).StaysIn s.heap := fun b o e => of_hideAll _ e
  have X := X₀.keeps b1
  have T := T₀.keeps b1
  refine' enter2 (K := kk.heap_1 _) (binds := [(Str.ofString "self", .ref x), (Str.ofString "code", .ref cl'), (Str.ofString "constants", .ref kl'), (Str.ofString "depth", .int dep' td')]) (hideAll s.heap [x, d]) [(x, instObj 219 d), (d, ownDict h1 h2 h3 h4 h5 h6 k1 k2 k3 k4 k5 k6 tt td cl kl dep)] ?k3 ?k5 ?kk ?kz ?kp ?k6 ?k7 ?k8 ?k9 ?kB ?_ ?c2 ?c3 ?c4 ?c5; (case k6 => k_is); (case k7 => k_is); (case k8 => ktr_room); (case k9 => exact BindsTo.of_eq rfl); (case c5 => decide); (case kB => exact locs rfl); (case c2 => exact rfl); (case c3 => exact rfl); (case c4 => exact rfl)
  case k3 => exact X
  case k5 => exact TopRead.nolimit (T.keeps b2)
  case kk => exact b2
  case kz => exact Nat.le_of_eq (hideAll_size _ _)
  case kp => exact List.forall_mem_cons.mpr ⟨⟨b0.1, hideAll_none _ (.head _)⟩, List.forall_mem_cons.mpr ⟨⟨b9.1, hideAll_none _ (.tail _ (.head _))⟩, List.forall_mem_nil _⟩⟩
  intro L' h₁ F N
  (try dsimp only)
  generalize hg : hideAll s.heap [x, d] = g at *
  k_steps
  have hp9 := News.get (by k_asm : News g L' _ _) (List.Mem.tail _ (List.Mem.head _))
  have hx9 := News.get (by k_asm : News g L' _ _) (List.Mem.head _)
  refine hR _ _ _ _ _ _ _ _ _ _ _ _ _ _ _ (fun b o hb e => ?_) hp9
  by_cases hbx : b = x
  · subst hbx; rw [b0.1] at e; cases e; exact hx9
  · exact Fr.keep (by k_asm : Fr g L' _ _) b o (hg ▸ hideAll_get _ e (fun q => by
      rcases List.mem_cons.mp q with q | q
      · exact hbx q
      · exact hb (List.mem_singleton.mp q)))
end
end Mine
end
section
open PySem
namespace Mine
/-! ## parts: what is put together is well made -/
noncomputable def AllAt {α : Type} (P : Nat → α → Prop) : Nat → List α → Prop
  | _, [] => True
  | k, x :: xs => P k x ∧ AllAt P (k + 1) xs
theorem allAt_append {α : Type} {P : Nat → α → Prop} : ∀ {xs ys : List α} {k : Nat}, AllAt P k (xs ++ ys) ↔ AllAt P k xs ∧ AllAt P (k + xs.length) ys
  | [], ys, k => ⟨fun h => ⟨trivial, h⟩, fun h => h.2⟩
  | x :: xs, ys, k => by
    have e : k + (xs.length + 1) = k + 1 + xs.length := by omega
    show (P k x ∧ AllAt P (k + 1) (xs ++ ys)) ↔ (P k x ∧ AllAt P (k + 1) xs) ∧ AllAt P (k + (xs.length + 1)) ys
    rw [allAt_append (xs := xs), and_assoc, e]
theorem allAt_mono {α : Type} {P Q : Nat → α → Prop} (h : ∀ p x, P p x → Q p x) : ∀ {xs : List α} {k : Nat}, AllAt P k xs → AllAt Q k xs
  | [], _, _ => trivial
  | _ :: _, _, ⟨a, b⟩ => ⟨h _ _ a, allAt_mono h b⟩
theorem allAt_get {α : Type} {P : Nat → α → Prop} : ∀ {xs : List α} {k i : Nat} {x : α}, AllAt P k xs → xs[i]? = some x → P (k + i) x
  | [], _, i, _, _, e => by simp at e
  | y :: ys, k, 0, x, h, e => by simp at e; subst e; exact h.1
  | y :: ys, k, i + 1, x, h, e => by
    simp at e
    have := allAt_get h.2 e
    rwa [show k + 1 + i = k + (i + 1) by omega] at this
theorem allAt_of {α : Type} {P : Nat → α → Prop} : ∀ {xs : List α} {k : Nat}, (∀ i x, xs[i]? = some x → P (k + i) x) → AllAt P k xs
  | [], _, _ => trivial
  | y :: ys, k, h => ⟨h 0 y rfl, allAt_of fun i x e => by rw [show k + 1 + i = k + (i + 1) by omega]; exact h (i + 1) x e⟩
noncomputable def SomeAt {α : Type} (P : Nat → α → Prop) : Nat → List α → Prop
  | _, [] => False
  | k, x :: xs => P k x ∨ SomeAt P (k + 1) xs
theorem someAt_append {α : Type} {P : Nat → α → Prop} : ∀ {xs ys : List α} {k : Nat}, SomeAt P k (xs ++ ys) ↔ SomeAt P k xs ∨ SomeAt P (k + xs.length) ys
  | [], ys, k => ⟨.inr, fun h => h.elim False.elim id⟩
  | x :: xs, ys, k => by
    have e : k + (xs.length + 1) = k + 1 + xs.length := by omega
    show (P k x ∨ SomeAt P (k + 1) (xs ++ ys)) ↔ (P k x ∨ SomeAt P (k + 1) xs) ∨ SomeAt P (k + (xs.length + 1)) ys
    rw [someAt_append (xs := xs), or_assoc, e]
theorem someAt_get {α : Type} {P : Nat → α → Prop} : ∀ {xs : List α} {k : Nat}, SomeAt P k xs → ∃ i x, xs[i]? = some x ∧ P (k + i) x
  | [], _, h => h.elim
  | y :: ys, k, .inl h => ⟨0, y, rfl, h⟩
  | y :: ys, k, .inr h => by
    obtain ⟨i, x, e, q⟩ := someAt_get h
    exact ⟨i + 1, x, e, by rw [show k + (i + 1) = k + 1 + i by omega]; exact q⟩
noncomputable def Top (b : Int) (hs : List (Int × Int × Int)) : Prop := ∀ x, hs.getLast? = some x → x.2.1 ≤ b
theorem Top.up {b b' : Int} {hs : List (Int × Int × Int)} (h : Top b hs) (e : b ≤ b') : Top b' hs := fun x hx => Int.le_trans (h x hx) e
structure Fine (T : Nat → St) (hi : Nat) (m : Int) (p : Nat) (o : Op) : Prop where
  ok : o.Ok (T p)
  size : (o.step (T p)).hs.length ≤ 1000
  nret : o ≠ .ret
  range : ∀ n : Nat, hi < n → o.InRange n
  ways : ∀ w ∈ o.ways p (T p), ∃ j : Nat, w.1 = (j : Int) ∧ j ≤ hi ∧ w.2 = T j
  le : (T p).v ≤ m
  le2 : (o.step (T p)).v ≤ m
theorem Fine.mono {T : Nat → St} {hi hi' : Nat} {m m' : Int} {p : Nat} {o : Op} (h : Fine T hi m p o) (b : hi ≤ hi') (c : m ≤ m') : Fine T hi' m' p o :=
  ⟨h.ok, h.size, h.nret, fun n hn => h.range n (Nat.lt_of_le_of_lt b hn), fun w hw => let ⟨j, x, z, u⟩ := h.ways w hw; ⟨j, x, Nat.le_trans z b, u⟩, Int.le_trans h.le c, Int.le_trans h.le2 c⟩
noncomputable def Hits (T : Nat → St) (m : Int) (p : Nat) (o : Op) : Prop := (T p).v = m ∨ (o.step (T p)).v = m
noncomputable def Cl (P : Nat → Prop) (T : Nat → St) (p : Nat) (o : Op) : Prop := P p → ∀ w ∈ o.ways p (T p), ∀ j : Nat, w.1 = (j : Int) → P j
noncomputable abbrev mv (k : Int) (ops : List Op) : List Op := ops.map (Op.move k)
theorem move_move (o : Op) (j k : Int) : (o.move j).move k = o.move (j + k) := by
  cases o
  case goto p => exact congrArg Op.goto (Int.add_assoc ..)
  case gnil p => exact congrArg Op.gnil (Int.add_assoc ..)
  case gnilpop p => exact congrArg Op.gnilpop (Int.add_assoc ..)
  case gnonpop p => exact congrArg Op.gnonpop (Int.add_assoc ..)
  case pcatch p => exact congrArg Op.pcatch (Int.add_assoc ..)
  all_goals rfl
theorem mv_mv (ops : List Op) (j k : Int) : (ops.map (Op.move j)).map (Op.move k) = ops.map (Op.move (j + k)) := by
  rw [List.map_map]; exact List.map_congr_left fun o _ => move_move o j k
theorem move_zero (o : Op) : o.move 0 = o := by
  cases o
  case goto p => exact congrArg Op.goto (Int.add_zero _)
  case gnil p => exact congrArg Op.gnil (Int.add_zero _)
  case gnilpop p => exact congrArg Op.gnilpop (Int.add_zero _)
  case gnonpop p => exact congrArg Op.gnonpop (Int.add_zero _)
  case pcatch p => exact congrArg Op.pcatch (Int.add_zero _)
  all_goals rfl
theorem mv_zero (ops : List Op) : ops.map (Op.move 0) = ops := by
  rw [show Op.move 0 = id from funext move_zero, List.map_id]
/-- a part at place k, entered with st, its standings being T -/
structure Piece (ops : List Op) (d : Int) (T : Nat → St) (k : Nat) (st : St) : Prop where
  head : T k = st
  fine : AllAt (Fine T (k + ops.length) (st.v + d)) k (mv k ops)
  hit : SomeAt (Hits T (st.v + d)) k (mv k ops)
  reach : ∀ P : Nat → Prop, P k → AllAt (Cl P T) k (mv k ops) → ∀ p, k ≤ p → p ≤ k + ops.length → P p
noncomputable def Good (n : Nat) (ops : List Op) (d : Int) : Prop := 0 < ops.length ∧ 1 ≤ d ∧ ∀ (k : Nat) (st : St), 0 ≤ st.v → 0 ≤ st.b → Top st.b st.hs → st.hs.length + n ≤ 1000 → ∃ ss : List St, ss.length = ops.length ∧
  ∀ T : Nat → St, AllAt (fun p s => T p = s) k ss → T (k + ops.length) = ⟨st.v + 1, st.b, st.hs⟩ → Piece ops d T k st
/-! ### one instruction -/
structure Plain (o : Op) : Prop where
  ways : ∀ i st, o.ways i st = [(i + 1, o.step st)]
  hs : ∀ st, o.laterHs st = st.hs
  hands : o.hands = 0
  nret : o ≠ .ret
  range : ∀ n, o.InRange n
  move : ∀ k, o.move k = o
theorem plain_discard : Plain .discard := ⟨fun _ _ => rfl, fun _ => rfl, rfl, fun e => Op.noConfusion e, fun _ => trivial, fun _ => rfl⟩
theorem plain_varbind : Plain .varbind := ⟨fun _ _ => rfl, fun _ => rfl, rfl, fun e => Op.noConfusion e, fun _ => trivial, fun _ => rfl⟩
theorem plain_varref : Plain .varref := ⟨fun _ _ => rfl, fun _ => rfl, rfl, fun e => Op.noConfusion e, fun _ => trivial, fun _ => rfl⟩
theorem plain_unbind : Plain .unbind := ⟨fun _ _ => rfl, fun _ => rfl, rfl, fun e => Op.noConfusion e, fun _ => trivial, fun _ => rfl⟩
theorem plain_dup : Plain .dup := ⟨fun _ _ => rfl, fun _ => rfl, rfl, fun e => Op.noConfusion e, fun _ => trivial, fun _ => rfl⟩
theorem plain_stackref : Plain .stackref := ⟨fun _ _ => rfl, fun _ => rfl, rfl, fun e => Op.noConfusion e, fun _ => trivial, fun _ => rfl⟩
theorem plain_call : Plain .call := ⟨fun _ _ => rfl, fun _ => rfl, rfl, fun e => Op.noConfusion e, fun _ => trivial, fun _ => rfl⟩
theorem plain_cons : Plain .cons := ⟨fun _ _ => rfl, fun _ => rfl, rfl, fun e => Op.noConfusion e, fun _ => trivial, fun _ => rfl⟩
theorem plain_eq : Plain .eq := ⟨fun _ _ => rfl, fun _ => rfl, rfl, fun e => Op.noConfusion e, fun _ => trivial, fun _ => rfl⟩
theorem plain_list3 : Plain .list3 := ⟨fun _ _ => rfl, fun _ => rfl, rfl, fun e => Op.noConfusion e, fun _ => trivial, fun _ => rfl⟩
theorem plain_const {k : Int} (h0 : 0 ≤ k) (h1 : k < 2) : Plain (.const k) := ⟨fun _ _ => rfl, fun _ => rfl, rfl, fun e => Op.noConfusion e, fun _ => ⟨h0, h1⟩, fun _ => rfl⟩
section
variable {T : Nat → St} {hi p j : Nat} {m v b : Int} {hs : List (Int × Int × Int)} {P : Nat → Prop} {q : Int}
theorem fine_plain {o : Op} (K : Plain o) (tp : T p = ⟨v, b, hs⟩) (tn : T (p + 1) = ⟨v - o.popped + o.pushed, b + o.binds, hs⟩) (need : o.needed ≤ v) (hb : 0 ≤ b + o.binds) (top : Top (b + o.binds) hs) (hz : hs.length ≤ 1000) (c : p + 1 ≤ hi)
    (le : v ≤ m) (le2 : v - o.popped + o.pushed ≤ m) : Fine T hi m p o := by
  refine ⟨⟨by rw [tp]; exact need, by rw [tp]; exact hb, fun h => by rw [K.hands] at h; omega, fun x hx => by rw [K.hs, tp] at hx; rw [tp]; exact top x hx, by rw [tp]; exact hz⟩, ?_, K.nret, fun n _ => K.range n, ?_, by rw [tp]; exact le, by rw [tp]; exact le2⟩
  · show (o.laterHs (T p)).length ≤ 1000
    rw [K.hs, tp]; exact hz
  · intro w hw
    rw [K.ways] at hw
    rw [List.mem_singleton.mp hw]
    refine ⟨p + 1, rfl, c, ?_⟩
    rw [tn]
    simp only [Op.step, K.hs, tp]
theorem cl_plain {o : Op} (K : Plain o) (h : Cl P T p o) (hp : P p) {i : Nat} (e : i = p + 1) : P i := h hp _ (by rw [K.ways]; exact .head _) i (by rw [e]; rfl)
theorem fine_goto (tp : T p = ⟨v, b, hs⟩) (tj : T j = ⟨v, b, hs⟩) (e : q = (j : Int)) (hb : 0 ≤ b) (top : Top b hs) (hv : 0 ≤ v) (hz : hs.length ≤ 1000) (c' : j ≤ hi) (le : v ≤ m) : Fine T hi m p (.goto q) := by
  refine ⟨⟨by rw [tp]; exact hv, by rw [tp]; show 0 ≤ b + 0; omega, fun h => absurd (show (0 : Int) < 0 from h) (by decide), fun x hx => ?_, by rw [tp]; exact hz⟩, by rw [tp]; exact hz, fun e => Op.noConfusion e, fun n hn => ⟨by omega, by omega⟩, ?_, by rw [tp]; exact le, ?_⟩
  · rw [tp] at hx ⊢; have := top x hx; show x.2.1 ≤ b + 0; simpa using this
  · intro w hw
    rw [List.mem_singleton.mp hw]
    refine ⟨j, e, c', ?_⟩
    rw [tj, tp]
    show (⟨v - 0 + 0, b + 0, hs⟩ : St) = _
    rw [Int.sub_zero, Int.add_zero, Int.add_zero]
  · rw [tp]; show v - 0 + 0 ≤ m; omega
theorem cl_goto (h : Cl P T p (.goto q)) (hp : P p) (e : q = (j : Int)) : P j := h hp _ (.head _) j e
theorem fine_gnil (tp : T p = ⟨v + 1, b, hs⟩) (tn : T (p + 1) = ⟨v, b, hs⟩) (tj : T j = ⟨v, b, hs⟩) (e : q = (j : Int)) (hv : 0 ≤ v) (hb : 0 ≤ b) (top : Top b hs) (hz : hs.length ≤ 1000) (c : p + 1 ≤ hi) (c' : j ≤ hi) (le : v + 1 ≤ m) : Fine T hi m p (.gnil q) := by
  refine ⟨⟨by rw [tp]; show (1 : Int) ≤ v + 1; omega, by rw [tp]; show 0 ≤ b + 0; omega, fun h => absurd (show (0 : Int) < 0 from h) (by decide), fun x hx => ?_, by rw [tp]; exact hz⟩, by rw [tp]; exact hz, fun e => Op.noConfusion e, fun n hn => ⟨by omega, by omega⟩, ?_, by rw [tp]; exact le, ?_⟩
  · rw [tp] at hx ⊢; have := top x hx; show x.2.1 ≤ b + 0; simpa using this
  · intro w hw
    have es : Op.step (.gnil q) (T p) = ⟨v, b, hs⟩ := by rw [tp]; show (⟨v + 1 - 1 + 0, b + 0, hs⟩ : St) = _; rw [Int.add_sub_cancel, Int.add_zero, Int.add_zero]
    rcases List.mem_cons.mp hw with rfl | hw
    · exact ⟨p + 1, rfl, c, by rw [tn]; exact es⟩
    · rw [List.mem_singleton.mp hw]; exact ⟨j, e, c', by rw [tj]; exact es⟩
  · rw [tp]; show v + 1 - 1 + 0 ≤ m; omega
theorem cl_gnil (h : Cl P T p (.gnil q)) (hp : P p) {i : Nat} (e' : i = p + 1) (e : q = (j : Int)) : P i ∧ P j := ⟨h hp _ (.head _) i (by rw [e']; rfl), h hp _ (.tail _ (.head _)) j e⟩
theorem fine_gnilpop (tp : T p = ⟨v + 1, b, hs⟩) (tn : T (p + 1) = ⟨v, b, hs⟩) (tj : T j = ⟨v + 1, b, hs⟩) (e : q = (j : Int)) (hv : 0 ≤ v) (hb : 0 ≤ b) (top : Top b hs) (hz : hs.length ≤ 1000) (c : p + 1 ≤ hi) (c' : j ≤ hi) (le : v + 1 ≤ m) : Fine T hi m p (.gnilpop q) := by
  refine ⟨⟨by rw [tp]; show (1 : Int) ≤ v + 1; omega, by rw [tp]; show 0 ≤ b + 0; omega, fun h => absurd (show (0 : Int) < 0 from h) (by decide), fun x hx => ?_, by rw [tp]; exact hz⟩, by rw [tp]; exact hz, fun e => Op.noConfusion e, fun n hn => ⟨by omega, by omega⟩, ?_, by rw [tp]; exact le, ?_⟩
  · rw [tp] at hx ⊢; have := top x hx; show x.2.1 ≤ b + 0; simpa using this
  · intro w hw
    have es : Op.step (.gnilpop q) (T p) = ⟨v, b, hs⟩ := by rw [tp]; show (⟨v + 1 - 1 + 0, b + 0, hs⟩ : St) = _; rw [Int.add_sub_cancel, Int.add_zero, Int.add_zero]
    rcases List.mem_cons.mp hw with rfl | hw
    · exact ⟨p + 1, rfl, c, by rw [tn]; exact es⟩
    · rw [List.mem_singleton.mp hw]; exact ⟨j, e, c', by rw [tj]; exact congrArg (fun z : St => (⟨z.v + 1, z.b, z.hs⟩ : St)) es⟩
  · rw [tp]; show v + 1 - 1 + 0 ≤ m; omega
theorem cl_gnilpop (h : Cl P T p (.gnilpop q)) (hp : P p) {i : Nat} (e : i = p + 1) : P i := h hp _ (.head _) i (by rw [e]; rfl)
theorem fine_gnonpop (tp : T p = ⟨v + 1, b, hs⟩) (tn : T (p + 1) = ⟨v, b, hs⟩) (tj : T j = ⟨v + 1, b, hs⟩) (e : q = (j : Int)) (hv : 0 ≤ v) (hb : 0 ≤ b) (top : Top b hs) (hz : hs.length ≤ 1000) (c : p + 1 ≤ hi) (c' : j ≤ hi) (le : v + 1 ≤ m) : Fine T hi m p (.gnonpop q) := by
  refine ⟨⟨by rw [tp]; show (1 : Int) ≤ v + 1; omega, by rw [tp]; show 0 ≤ b + 0; omega, fun h => absurd (show (0 : Int) < 0 from h) (by decide), fun x hx => ?_, by rw [tp]; exact hz⟩, by rw [tp]; exact hz, fun e => Op.noConfusion e, fun n hn => ⟨by omega, by omega⟩, ?_, by rw [tp]; exact le, ?_⟩
  · rw [tp] at hx ⊢; have := top x hx; show x.2.1 ≤ b + 0; simpa using this
  · intro w hw
    have es : Op.step (.gnonpop q) (T p) = ⟨v, b, hs⟩ := by rw [tp]; show (⟨v + 1 - 1 + 0, b + 0, hs⟩ : St) = _; rw [Int.add_sub_cancel, Int.add_zero, Int.add_zero]
    rcases List.mem_cons.mp hw with rfl | hw
    · exact ⟨p + 1, rfl, c, by rw [tn]; exact es⟩
    · rw [List.mem_singleton.mp hw]; exact ⟨j, e, c', by rw [tj]; exact congrArg (fun z : St => (⟨z.v + 1, z.b, z.hs⟩ : St)) es⟩
  · rw [tp]; show v + 1 - 1 + 0 ≤ m; omega
theorem cl_gnonpop (h : Cl P T p (.gnonpop q)) (hp : P p) {i : Nat} (e : i = p + 1) : P i := h hp _ (.head _) i (by rw [e]; rfl)
theorem top_snoc {w q : Int} : Top b (hs ++ [(w, b, q)]) := fun x hx => by
  rw [List.getLast?_append] at hx
  simp at hx
  subst hx
  exact Int.le_refl _
theorem fine_catch (tp : T p = ⟨v + 1, b, hs⟩) (tn : T (p + 1) = ⟨v, b, hs ++ [(v, b, (j : Int))]⟩) (tj : T j = ⟨v + 1, b, hs⟩) (e : q = (j : Int)) (hv : 0 ≤ v) (hb : 0 ≤ b) (hz : hs.length + 1 ≤ 1000) (c : p + 1 ≤ hi) (c' : j ≤ hi) (le : v + 1 ≤ m) : Fine T hi m p (.pcatch q) := by
  subst e
  have es : Op.step (.pcatch (j : Int)) (T p) = ⟨v, b, hs ++ [(v, b, (j : Int))]⟩ := by rw [tp]; show (⟨v + 1 - 1 + 0, b + 0, hs ++ [(v + 1 - 1 + 0, b, (j : Int))]⟩ : St) = _; rw [Int.add_sub_cancel, Int.add_zero, Int.add_zero]
  refine ⟨⟨by rw [tp]; show (1 : Int) ≤ v + 1; omega, by rw [tp]; show 0 ≤ b + 0; omega, fun h => absurd (show (1 : Int) < 0 from h) (by decide), fun x hx => ?_, by rw [tp]; show hs.length ≤ 1000; omega⟩, by rw [es]; exact Nat.le_trans (Nat.le_of_eq (List.length_append ..)) hz, fun e => Op.noConfusion e, fun n hn => ⟨by omega, by omega⟩, ?_, by rw [tp]; exact le, by rw [es]; show v ≤ m; omega⟩
  · have e1 : Op.laterHs (.pcatch (j : Int)) (T p) = (Op.step (.pcatch (j : Int)) (T p)).hs := rfl
    rw [e1, es] at hx
    have := top_snoc x hx
    rw [tp]; show x.2.1 ≤ b + 0; simpa using this
  · intro w hw
    rcases List.mem_cons.mp hw with rfl | hw
    · exact ⟨p + 1, rfl, c, by rw [tn]; exact es⟩
    · rw [List.mem_singleton.mp hw]
      refine ⟨j, rfl, c', ?_⟩
      rw [tj]
      show (⟨(Op.step (.pcatch (j : Int)) (T p)).v + 1, (Op.step (.pcatch (j : Int)) (T p)).b, (T p).hs⟩ : St) = _
      rw [es, tp]
theorem cl_catch (h : Cl P T p (.pcatch q)) (hp : P p) {i : Nat} (e : i = p + 1) : P i := h hp _ (.head _) i (by rw [e]; rfl)
theorem fine_pop {w z : Int} (tp : T p = ⟨v, b, hs ++ [(w, b, z)]⟩) (tn : T (p + 1) = ⟨v, b, hs⟩) (hv : 0 ≤ v) (hb : 0 ≤ b) (top : Top b hs) (hz : hs.length + 1 ≤ 1000) (c : p + 1 ≤ hi) (le : v ≤ m) : Fine T hi m p .pop := by
  have es : Op.step .pop (T p) = ⟨v, b, hs⟩ := by rw [tp]; show (⟨v - 0 + 0, b + 0, (hs ++ [(w, b, z)]).dropLast⟩ : St) = _; rw [Int.sub_zero, Int.add_zero, Int.add_zero, List.dropLast_concat]
  refine ⟨⟨by rw [tp]; exact hv, by rw [tp]; show 0 ≤ b + 0; omega, fun _ => ⟨(w, b, z), by rw [tp]; simp, by rw [tp]⟩, fun x hx => ?_, by rw [tp]; simp; omega⟩, by rw [es]; show hs.length ≤ 1000; omega, fun e => Op.noConfusion e, fun n hn => trivial, ?_, by rw [tp]; exact le, by rw [es]; exact le⟩
  · have e1 : Op.laterHs .pop (T p) = (Op.step .pop (T p)).hs := rfl
    rw [e1, es] at hx
    have := top x hx
    rw [tp]; show x.2.1 ≤ b + 0; simpa using this
  · intro y hy
    rw [List.mem_singleton.mp hy]
    exact ⟨p + 1, rfl, c, by rw [tn]; exact es⟩
theorem cl_pop (h : Cl P T p .pop) (hp : P p) {i : Nat} (e : i = p + 1) : P i := h hp _ (.head _) i (by rw [e]; rfl)
end
/-! ### what stands behind a place, put together from the end -/
noncomputable def onX (X : Option (Nat × St)) (Q : Nat → St → Prop) : Prop := match X with | none => True | some x => Q x.1 x.2
structure Suf (T : Nat → St) (k E : Nat) (m : Int) (X : Option (Nat × St)) (B : Prop) (j : Nat) (xs : List Op) : Prop where
  fine : AllAt (Fine T E m) (k + j) (mv k xs)
  hit : B → SomeAt (Hits T m) (k + j) (mv k xs)
  reach : ∀ P : Nat → Prop, P (k + j) → onX X (fun x _ => P x) → AllAt (Cl P T) (k + j) (mv k xs) → ∀ p, k + j ≤ p → p ≤ E → P p
/-- the rest xs of a code that begins at k and ends at E, from place k + j, entered with st -/
noncomputable def Sx (k E : Nat) (m : Int) (s0 sE : St) (X : Option (Nat × St)) (B : Prop) (j : Nat) (st : St) (xs : List Op) : Prop := k + j ≤ E ∧ onX X (fun x _ => x ≤ E) ∧ ∃ ss : List St, ss.length = xs.length ∧
  ∀ T : Nat → St, AllAt (fun p s => T p = s) (k + j) ss → T E = sE → T (k + j) = st ∧ onX X (fun x s => T x = s) ∧ (T k = s0 → Suf T k E m X B j xs)
section
variable {k E j : Nat} {m : Int} {s0 sE st st' : St} {X : Option (Nat × St)} {B : Prop} {xs : List Op}
theorem sx_nil {je : Nat} : Sx k (k + je) m s0 sE none False je sE [] :=
  ⟨Nat.le_refl _, trivial, [], rfl, fun T _ hE => ⟨hE, trivial, fun _ => ⟨trivial, False.elim, fun P h _ _ p a b => (Nat.le_antisymm a b) ▸ h⟩⟩⟩
theorem all_cat {α : Type} {P : Nat → α → Prop} {xs ys : List α} {k j l : Nat} (e : xs.length = l) (h : AllAt P (k + j) (xs ++ ys)) : AllAt P (k + j) xs ∧ AllAt P (k + (j + l)) ys := by
  subst e
  exact (Nat.add_assoc k j xs.length) ▸ allAt_append.mp h
theorem cat_all {α : Type} {P : Nat → α → Prop} {xs ys : List α} {k j l : Nat} (e : xs.length = l) (h : AllAt P (k + j) xs) (h' : AllAt P (k + (j + l)) ys) : AllAt P (k + j) (xs ++ ys) := by
  subst e
  exact allAt_append.mpr ⟨h, (Nat.add_assoc k j xs.length).symm ▸ h'⟩
theorem cat_some {α : Type} {P : Nat → α → Prop} {xs ys : List α} {k j l : Nat} (e : xs.length = l) (h : SomeAt P (k + j) xs ∨ SomeAt P (k + (j + l)) ys) : SomeAt P (k + j) (xs ++ ys) := by
  subst e
  exact someAt_append.mpr (h.imp id fun h => (Nat.add_assoc k j xs.length).symm ▸ h)
theorem mv_part {o : List Op} {c : Int} (ec : c = (j : Int)) : mv k (o.map (Op.move c) ++ xs) = mv ((k + j : Nat) : Int) o ++ mv k xs := by
  show List.map _ _ = _
  rw [List.map_append, mv_mv, ec]
  congr 1
  exact congrArg (fun z => List.map (Op.move z) o) (by omega)
theorem sx_part {n : Nat} {o : List Op} {d c : Int} (g : Good n o d) (h0 : 0 ≤ st.v) (hb : 0 ≤ st.b) (ht : Top st.b st.hs) (hl : st.hs.length + n ≤ 1000) (ec : c = (j : Int)) (hm : st.v + d ≤ m)
    (t : Sx k E m s0 sE X B (j + o.length) ⟨st.v + 1, st.b, st.hs⟩ xs) : Sx k E m s0 sE X (st.v + d = m ∨ B) j st (o.map (Op.move c) ++ xs) := by
  obtain ⟨le, lx, s2, l2, H2⟩ := t
  obtain ⟨s1, l1, H1⟩ := g.2.2 (k + j) st h0 hb ht hl
  have le' : k + j + o.length ≤ E := Nat.add_assoc k j o.length ▸ le
  refine ⟨Nat.le_trans (Nat.le_add_right _ _) le', lx, s1 ++ s2, by rw [List.length_append, List.length_append, List.length_map, l1, l2], fun T hA hE => ?_⟩
  obtain ⟨A1, A2⟩ := all_cat l1 hA
  obtain ⟨t2, x2, H2⟩ := H2 T A2 hE
  have P := H1 T A1 ((Nat.add_assoc k j o.length).symm ▸ t2)
  have lm : (mv ((k + j : Nat) : Int) o).length = o.length := List.length_map ..
  refine ⟨P.head, x2, fun hk => ?_⟩
  have S := H2 hk
  refine ⟨?_, ?_, ?_⟩
  · rw [mv_part ec]
    exact cat_all lm (allAt_mono (fun _ _ x => x.mono le' hm) P.fine) S.fine
  · rw [mv_part ec]
    exact fun h => cat_some lm (Or.imp (fun (e : st.v + d = m) => by rw [← e]; exact P.hit) S.hit h)
  · rw [mv_part ec]
    intro Q q0 qx hc p a b
    obtain ⟨c1, c2⟩ := all_cat lm hc
    have R := P.reach Q q0 c1
    by_cases x : p ≤ k + j + o.length
    · exact R p a x
    · exact S.reach Q (Nat.add_assoc k j o.length ▸ R _ (Nat.le_add_right _ _) (Nat.le_refl _)) qx c2 p (by omega) b
theorem sx_part0 {n : Nat} {o : List Op} {d : Int} (g : Good n o d) (h0 : 0 ≤ st.v) (hb : 0 ≤ st.b) (ht : Top st.b st.hs) (hl : st.hs.length + n ≤ 1000) (hm : st.v + d ≤ m)
    (t : Sx k E m s0 sE X B o.length ⟨st.v + 1, st.b, st.hs⟩ xs) : Sx k E m s0 sE X (st.v + d = m ∨ B) 0 st (o ++ xs) := by
  have := sx_part (j := 0) (c := 0) g h0 hb ht hl rfl hm (by rwa [Nat.zero_add])
  rwa [mv_zero] at this
theorem step_p {Q : Nat → Prop} (h : Q (k + j)) (r : ∀ p, k + (j + 1) ≤ p → p ≤ E → Q p) : ∀ p, k + j ≤ p → p ≤ E → Q p := fun p a b =>
  (Nat.eq_or_lt_of_le a).elim (fun e => e ▸ h) fun a => r p a b
/-- one instruction, whatever its ways; X' and Y: what is known of the place of a branch -/
theorem sx_one {o : Op} {X' : Option (Nat × St)} (hx : onX X (fun x _ => x ≤ E) → k + (j + 1) ≤ E → onX X' (fun x _ => x ≤ E)) (hy : ∀ T : Nat → St, T (k + (j + 1)) = st' → onX X (fun x s => T x = s) → onX X' (fun x s => T x = s))
    (hf : ∀ T : Nat → St, T (k + j) = st → T (k + (j + 1)) = st' → T E = sE → T k = s0 → onX X (fun x s => T x = s) → onX X (fun x _ => x ≤ E) → k + (j + 1) ≤ E → Fine T E m (k + j) (o.move k))
    (hc : ∀ (T : Nat → St) (P : Nat → Prop), onX X' (fun x _ => P x) → Cl P T (k + j) (o.move k) → P (k + j) → P (k + (j + 1)) ∧ onX X (fun x _ => P x))
    (t : Sx k E m s0 sE X B (j + 1) st' xs) : Sx k E m s0 sE X' (st.v = m ∨ B) j st (o :: xs) := by
  obtain ⟨le, lx, s2, l2, H2⟩ := t
  refine ⟨Nat.le_of_succ_le le, hx lx le, st :: s2, congrArg (· + 1) l2, fun T hA hE => ?_⟩
  obtain ⟨t2, x2, H2⟩ := H2 T hA.2 hE
  refine ⟨hA.1, hy T t2 x2, fun hk => ?_⟩
  have S := H2 hk
  exact ⟨⟨hf T hA.1 t2 hE hk x2 lx le, S.fine⟩, fun h => h.imp (fun h => .inl (by rw [hA.1]; exact h)) S.hit, fun P p0 px hc' =>
    have q := hc T P px hc'.1 p0
    step_p p0 (S.reach P q.1 q.2 hc'.2)⟩
theorem sx_seq {o : Op} (hf : ∀ T : Nat → St, T (k + j) = st → T (k + (j + 1)) = st' → T E = sE → k + (j + 1) ≤ E → Fine T E m (k + j) (o.move k))
    (hc : ∀ (T : Nat → St) (P : Nat → Prop), Cl P T (k + j) (o.move k) → P (k + j) → P (k + (j + 1)))
    (t : Sx k E m s0 sE X B (j + 1) st' xs) : Sx k E m s0 sE X (st.v = m ∨ B) j st (o :: xs) :=
  sx_one (fun h _ => h) (fun _ _ h => h) (fun T a b c _ _ _ d => hf T a b c d) (fun T P x c p => ⟨hc T P c p, x⟩) t
variable {v b : Int} {hs : List (Int × Int × Int)} {q : Int}
theorem sx_plain {o : Op} (K : Plain o) {v' b' : Int} (ev : v' = v - o.popped + o.pushed) (eb : b' = b + o.binds) (need : o.needed ≤ v) (hb : 0 ≤ b') (top : Top b' hs) (hz : hs.length ≤ 1000) (le : v ≤ m) (le2 : v' ≤ m)
    (t : Sx k E m s0 sE X B (j + 1) ⟨v', b', hs⟩ xs) : Sx k E m s0 sE X (v = m ∨ B) j ⟨v, b, hs⟩ (o :: xs) := by
  subst ev eb
  exact sx_seq (fun T tp tn _ c => by rw [K.move]; exact fine_plain K tp tn need hb top hz c le le2) (fun T P c p => by rw [K.move] at c; exact cl_plain K c p rfl) t
theorem sx_gnonpop {je : Nat} (e : q = (je : Int)) (hv : 0 ≤ v) (hb : 0 ≤ b) (top : Top b hs) (hz : hs.length ≤ 1000) (le : v + 1 ≤ m)
    (t : Sx k (k + je) m s0 ⟨v + 1, b, hs⟩ X B (j + 1) ⟨v, b, hs⟩ xs) : Sx k (k + je) m s0 ⟨v + 1, b, hs⟩ X (v + 1 = m ∨ B) j ⟨v + 1, b, hs⟩ (.gnonpop q :: xs) :=
  sx_seq (o := .gnonpop q) (fun T tp tn tE c => fine_gnonpop (j := k + je) tp tn tE (by rw [e]; omega) hv hb top hz c (Nat.le_refl _) le) (fun T P c p => cl_gnonpop c p rfl) t
theorem sx_gnilpop {je : Nat} (e : q = (je : Int)) (hv : 0 ≤ v) (hb : 0 ≤ b) (top : Top b hs) (hz : hs.length ≤ 1000) (le : v + 1 ≤ m)
    (t : Sx k (k + je) m s0 ⟨v + 1, b, hs⟩ X B (j + 1) ⟨v, b, hs⟩ xs) : Sx k (k + je) m s0 ⟨v + 1, b, hs⟩ X (v + 1 = m ∨ B) j ⟨v + 1, b, hs⟩ (.gnilpop q :: xs) :=
  sx_seq (o := .gnilpop q) (fun T tp tn tE c => fine_gnilpop (j := k + je) tp tn tE (by rw [e]; omega) hv hb top hz c (Nat.le_refl _) le) (fun T P c p => cl_gnilpop c p rfl) t
theorem sx_catch {je : Nat} (e : q = (je : Int)) (hv : 0 ≤ v) (hb : 0 ≤ b) (hz : hs.length + 1 ≤ 1000) (le : v + 1 ≤ m)
    (t : Sx k (k + je) m s0 ⟨v + 1, b, hs⟩ X B (j + 1) ⟨v, b, hs ++ [(v, b, ((k + je : Nat) : Int))]⟩ xs) : Sx k (k + je) m s0 ⟨v + 1, b, hs⟩ X (v + 1 = m ∨ B) j ⟨v + 1, b, hs⟩ (.pcatch q :: xs) :=
  sx_seq (o := .pcatch q) (fun T tp tn tE c => fine_catch (j := k + je) tp tn tE (by rw [e]; omega) hv hb hz c (Nat.le_refl _) le) (fun T P c p => cl_catch c p rfl) t
theorem sx_pop {w z : Int} (hv : 0 ≤ v) (hb : 0 ≤ b) (top : Top b hs) (hz : hs.length + 1 ≤ 1000) (le : v ≤ m)
    (t : Sx k E m s0 sE X B (j + 1) ⟨v, b, hs⟩ xs) : Sx k E m s0 sE X (v = m ∨ B) j ⟨v, b, hs ++ [(w, b, z)]⟩ (.pop :: xs) :=
  sx_seq (o := .pop) (fun T tp tn _ c => fine_pop tp tn hv hb top hz c le) (fun T P c p => cl_pop c p rfl) t
/-- the branch's place is the one behind the goto -/
theorem sx_goto {jt : Nat} (hj : k + jt ≤ E) (e : q = (jt : Int)) (ht : ∀ T : Nat → St, T E = sE → T k = s0 → T (k + jt) = ⟨v, b, hs⟩) (hv : 0 ≤ v) (hb : 0 ≤ b) (top : Top b hs) (hz : hs.length ≤ 1000) (le : v ≤ m)
    (t : Sx k E m s0 sE none B (j + 1) st' xs) : Sx k E m s0 sE (some (k + (j + 1), st')) (v = m ∨ B) j ⟨v, b, hs⟩ (.goto q :: xs) :=
  sx_one (o := .goto q) (X := none) (X' := some (k + (j + 1), st')) (fun _ h => h) (fun _ h _ => h) (fun T tp _ tE tk _ _ _ => fine_goto (j := k + jt) tp (ht T tE tk) (by rw [e]; omega) hb top hv hz hj le) (fun T P x c p => ⟨x, trivial⟩) t
theorem sx_gnil {jt : Nat} (e : q = (jt : Int)) (hv : 0 ≤ v) (hb : 0 ≤ b) (top : Top b hs) (hz : hs.length ≤ 1000) (le : v + 1 ≤ m)
    (t : Sx k E m s0 sE (some (k + jt, ⟨v, b, hs⟩)) B (j + 1) ⟨v, b, hs⟩ xs) : Sx k E m s0 sE none (v + 1 = m ∨ B) j ⟨v + 1, b, hs⟩ (.gnil q :: xs) :=
  sx_one (o := .gnil q) (X := some (k + jt, ⟨v, b, hs⟩)) (X' := none) (fun _ _ => trivial) (fun _ _ _ => trivial) (fun T tp tn _ _ tx lx c => fine_gnil (j := k + jt) tp tn tx (by rw [e]; omega) hv hb top hz c lx le) (fun T P _ c p => cl_gnil c p rfl (by rw [e]; omega)) t
theorem good_of {n : Nat} {ops : List Op} {d : Int} (je : Nat) (hl : ops.length = je) (hp : 0 < je) (hd : 1 ≤ d) (h : ∀ (k : Nat) (st : St), 0 ≤ st.v → 0 ≤ st.b → Top st.b st.hs → st.hs.length + (n + 1) ≤ 1000 → ∃ B : Prop, B ∧ Sx k (k + je) (st.v + d) st ⟨st.v + 1, st.b, st.hs⟩ none B 0 st ops) : Good (n + 1) ops d := by
  subst hl
  refine ⟨hp, hd, fun k st a b c z => ?_⟩
  obtain ⟨B, hB, _, _, ss, l, H⟩ := h k st a b c z
  refine ⟨ss, l, fun T hA hE => ?_⟩
  obtain ⟨t0, _, H⟩ := H T hA hE
  have S := H t0
  exact ⟨t0, S.fine, S.hit hB, fun P p0 hc => S.reach P p0 trivial hc⟩
theorem Good.up {n n' : Nat} {ops : List Op} {d : Int} (g : Good n ops d) (h : n ≤ n') : Good n' ops d :=
  ⟨g.1, g.2.1, fun k st a b c z => g.2.2 k st a b c (Nat.le_trans (Nat.add_le_add_left h _) z)⟩
end
end Mine
end
section
open PySem
namespace Mine
theorem max_or (a b : Int) : a = max a b ∨ b = max a b := (Int.le_total a b).elim (fun h => .inr (Int.max_eq_right h).symm) fun h => .inl (Int.max_eq_left h).symm
theorem good_max {n : Nat} {ops : List Op} {a b : Int} (h : ∀ D, a ≤ D → b ≤ D → (a = D ∨ b = D) → Good n ops D) : Good n ops (max a b) :=
  h _ (Int.le_max_left a b) (Int.le_max_right a b) (max_or a b)
theorem good_max3 {n : Nat} {ops : List Op} {a b c : Int} (h : ∀ D, a ≤ D → b ≤ D → c ≤ D → (a = D ∨ b = D ∨ c = D) → Good n ops D) : Good n ops (max (max a b) c) :=
  h _ (Int.le_trans (Int.le_max_left a b) (Int.le_max_left _ c)) (Int.le_trans (Int.le_max_right a b) (Int.le_max_left _ c)) (Int.le_max_right _ c) ((max_or (max a b) c).elim (fun h => (max_or a b).elim (fun h' => .inl (h'.trans h)) fun h' => .inr (.inl (h'.trans h))) fun h => .inr (.inr h))
theorem good_0 {n : Nat} {o1 o2 : List Op} {d1 d2 : Int} (g1 : Good n o1 d1) (g2 : Good n o2 d2) : Good (n + 1) (chain [o1, [.discard], o2]) (max d1 d2) := by
  have sh : chain [o1, [.discard], o2] = o1 ++ (Op.discard :: (o2.map (Op.move ((o1.length : Int) + 1)) ++ [])) := (by simp [chain, mv_zero, Op.move, Int.add_assoc])
  have q1 := g1.2.1
  rw [sh]
  refine good_max fun D m1 m2 mo => ?_
  exact good_of (o1.length + 1 + o2.length) (by simp; try omega) (by omega) (by omega) fun k st h0 hb ht hl => ⟨_, (mo.elim (fun h => (.inl (congrArg (st.v + ·) h))) (fun h => (.inr (.inr (.inl (congrArg (st.v + ·) h)))))), sx_part0 g1 h0 hb ht (Nat.le_of_succ_le hl) (by (try dsimp only); try omega) (sx_plain plain_discard (by (try dsimp only [Op.popped, Op.pushed, Op.binds, Op.needed]); try omega) (by (try dsimp only [Op.popped, Op.pushed, Op.binds, Op.needed]); try omega) (by (try dsimp only [Op.popped, Op.pushed, Op.binds, Op.needed]); try omega) (by (try dsimp only); try omega) (ht.up (by (try dsimp only); try omega)) (Nat.le_trans (Nat.le_add_right _ _) hl) (by (try dsimp only); try omega) (by (try dsimp only); try omega) (v' := st.v) (b' := st.b) (sx_part g2 h0 hb ht (Nat.le_of_succ_le hl) rfl (by (try dsimp only); try omega) sx_nil))⟩
theorem good_1 {n : Nat} {o1 o2 o3 : List Op} {d1 d2 d3 : Int} (g1 : Good n o1 d1) (g2 : Good n o2 d2) (g3 : Good n o3 d3) : Good (n + 1) (o1 ++ [Op.gnil ((o1.length : Int) + 1 + (o2.length : Int) + 1)] ++ o2.map (Op.move ((o1.length : Int) + 1)) ++ [Op.goto ((o1.length : Int) + 1 + (o2.length : Int) + 1 + (o3.length : Int))] ++ o3.map (Op.move ((o1.length : Int) + 1 + (o2.length : Int) + 1))) (max (max d1 d2) d3) := by
  have sh : o1 ++ [Op.gnil ((o1.length : Int) + 1 + (o2.length : Int) + 1)] ++ o2.map (Op.move ((o1.length : Int) + 1)) ++ [Op.goto ((o1.length : Int) + 1 + (o2.length : Int) + 1 + (o3.length : Int))] ++ o3.map (Op.move ((o1.length : Int) + 1 + (o2.length : Int) + 1)) = o1 ++ (Op.gnil ((o1.length : Int) + 1 + (o2.length : Int) + 1) :: (o2.map (Op.move ((o1.length : Int) + 1)) ++ (Op.goto ((o1.length : Int) + 1 + (o2.length : Int) + 1 + (o3.length : Int)) :: (o3.map (Op.move ((o1.length : Int) + 1 + (o2.length : Int) + 1)) ++ [])))) := (by simp [chain, mv_zero, Op.move, Int.add_assoc])
  have q1 := g1.2.1
  rw [sh]
  refine good_max3 fun D m1 m2 m3 mo => ?_
  exact good_of (o1.length + 1 + o2.length + 1 + o3.length) (by simp; try omega) (by omega) (by omega) fun k st h0 hb ht hl => ⟨_, (mo.elim (fun h => (.inl (congrArg (st.v + ·) h))) (fun mo => mo.elim (fun h => (.inr (.inr (.inl (congrArg (st.v + ·) h))))) (fun h => (.inr (.inr (.inr (.inr (.inl (congrArg (st.v + ·) h))))))))), sx_part0 g1 h0 hb ht (Nat.le_of_succ_le hl) (by (try dsimp only); try omega) (sx_gnil rfl h0 hb ht (Nat.le_trans (Nat.le_add_right _ _) hl) (by (try dsimp only); try omega) (sx_part g2 h0 hb ht (Nat.le_of_succ_le hl) rfl (by (try dsimp only); try omega) (sx_goto (jt := o1.length + 1 + o2.length + 1 + o3.length) (Nat.le_refl _) rfl (fun _ e _ => e) (b := st.b) (hs := st.hs) (by (try dsimp only); try omega) hb ht (Nat.le_trans (Nat.le_add_right _ _) hl) (by (try dsimp only); try omega) (sx_part g3 h0 hb ht (Nat.le_of_succ_le hl) rfl (by (try dsimp only); try omega) sx_nil))))⟩
theorem good_2 {n : Nat} {o1 o2 : List Op} {d1 d2 : Int} (g1 : Good n o1 d1) (g2 : Good n o2 d2) : Good (n + 1) (o1 ++ [Op.gnonpop ((o1.length : Int) + 1 + (o2.length : Int))] ++ o2.map (Op.move ((o1.length : Int) + 1))) (max d1 d2) := by
  have sh : o1 ++ [Op.gnonpop ((o1.length : Int) + 1 + (o2.length : Int))] ++ o2.map (Op.move ((o1.length : Int) + 1)) = o1 ++ (Op.gnonpop ((o1.length : Int) + 1 + (o2.length : Int)) :: (o2.map (Op.move ((o1.length : Int) + 1)) ++ [])) := (by simp [chain, mv_zero, Op.move, Int.add_assoc])
  have q1 := g1.2.1
  rw [sh]
  refine good_max fun D m1 m2 mo => ?_
  exact good_of (o1.length + 1 + o2.length) (by simp; try omega) (by omega) (by omega) fun k st h0 hb ht hl => ⟨_, (mo.elim (fun h => (.inl (congrArg (st.v + ·) h))) (fun h => (.inr (.inr (.inl (congrArg (st.v + ·) h)))))), sx_part0 g1 h0 hb ht (Nat.le_of_succ_le hl) (by (try dsimp only); try omega) (sx_gnonpop rfl h0 hb ht (Nat.le_trans (Nat.le_add_right _ _) hl) (by (try dsimp only); try omega) (sx_part g2 h0 hb ht (Nat.le_of_succ_le hl) rfl (by (try dsimp only); try omega) sx_nil))⟩
theorem good_3 {n : Nat} {o1 o2 : List Op} {d1 d2 : Int} (g1 : Good n o1 d1) (g2 : Good n o2 d2) : Good (n + 1) (o1 ++ [Op.gnilpop ((o1.length : Int) + 1 + (o2.length : Int))] ++ o2.map (Op.move ((o1.length : Int) + 1))) (max d1 d2) := by
  have sh : o1 ++ [Op.gnilpop ((o1.length : Int) + 1 + (o2.length : Int))] ++ o2.map (Op.move ((o1.length : Int) + 1)) = o1 ++ (Op.gnilpop ((o1.length : Int) + 1 + (o2.length : Int)) :: (o2.map (Op.move ((o1.length : Int) + 1)) ++ [])) := (by simp [chain, mv_zero, Op.move, Int.add_assoc])
  have q1 := g1.2.1
  rw [sh]
  refine good_max fun D m1 m2 mo => ?_
  exact good_of (o1.length + 1 + o2.length) (by simp; try omega) (by omega) (by omega) fun k st h0 hb ht hl => ⟨_, (mo.elim (fun h => (.inl (congrArg (st.v + ·) h))) (fun h => (.inr (.inr (.inl (congrArg (st.v + ·) h)))))), sx_part0 g1 h0 hb ht (Nat.le_of_succ_le hl) (by (try dsimp only); try omega) (sx_gnilpop rfl h0 hb ht (Nat.le_trans (Nat.le_add_right _ _) hl) (by (try dsimp only); try omega) (sx_part g2 h0 hb ht (Nat.le_of_succ_le hl) rfl (by (try dsimp only); try omega) sx_nil))⟩
theorem good_4 {n : Nat} {o1 o2 : List Op} {d1 d2 : Int} (g1 : Good n o1 d1) (g2 : Good n o2 d2) : Good (n + 1) (chain [o1, [.varbind], o2, [.unbind]]) (max d1 d2) := by
  have sh : chain [o1, [.varbind], o2, [.unbind]] = o1 ++ (Op.varbind :: (o2.map (Op.move ((o1.length : Int) + 1)) ++ (Op.unbind :: []))) := (by simp [chain, mv_zero, Op.move, Int.add_assoc])
  have q1 := g1.2.1
  rw [sh]
  refine good_max fun D m1 m2 mo => ?_
  exact good_of (o1.length + 1 + o2.length + 1) (by simp; try omega) (by omega) (by omega) fun k st h0 hb ht hl => ⟨_, (mo.elim (fun h => (.inl (congrArg (st.v + ·) h))) (fun h => (.inr (.inr (.inl (congrArg (st.v + ·) h)))))), sx_part0 g1 h0 hb ht (Nat.le_of_succ_le hl) (by (try dsimp only); try omega) (sx_plain plain_varbind (by (try dsimp only [Op.popped, Op.pushed, Op.binds, Op.needed]); try omega) (by (try dsimp only [Op.popped, Op.pushed, Op.binds, Op.needed]); try omega) (by (try dsimp only [Op.popped, Op.pushed, Op.binds, Op.needed]); try omega) (by (try dsimp only); try omega) (ht.up (by (try dsimp only); try omega)) (Nat.le_trans (Nat.le_add_right _ _) hl) (by (try dsimp only); try omega) (by (try dsimp only); try omega) (v' := st.v) (b' := st.b + 1) (sx_part g2 h0 (by (try dsimp only); try omega) (ht.up (by (try dsimp only); try omega)) (Nat.le_of_succ_le hl) rfl (by (try dsimp only); try omega) (sx_plain plain_unbind (by (try dsimp only [Op.popped, Op.pushed, Op.binds, Op.needed]); try omega) (by (try dsimp only [Op.popped, Op.pushed, Op.binds, Op.needed]); try omega) (by (try dsimp only [Op.popped, Op.pushed, Op.binds, Op.needed]); try omega) (by (try dsimp only); try omega) (ht.up (by (try dsimp only); try omega)) (Nat.le_trans (Nat.le_add_right _ _) hl) (by (try dsimp only); try omega) (by (try dsimp only); try omega) (v' := st.v + 1) (b' := st.b) sx_nil)))⟩
theorem good_5 {n : Nat} {o1 o2 : List Op} {d1 d2 : Int} (g1 : Good n o1 d1) (g2 : Good n o2 d2) : Good (n + 1) (o1 ++ [Op.pcatch ((o1.length : Int) + 1 + (o2.length : Int) + 1)] ++ o2.map (Op.move ((o1.length : Int) + 1)) ++ [Op.pop]) (max d1 d2) := by
  have sh : o1 ++ [Op.pcatch ((o1.length : Int) + 1 + (o2.length : Int) + 1)] ++ o2.map (Op.move ((o1.length : Int) + 1)) ++ [Op.pop] = o1 ++ (Op.pcatch ((o1.length : Int) + 1 + (o2.length : Int) + 1) :: (o2.map (Op.move ((o1.length : Int) + 1)) ++ (Op.pop :: []))) := (by simp [chain, mv_zero, Op.move, Int.add_assoc])
  have q1 := g1.2.1
  rw [sh]
  refine good_max fun D m1 m2 mo => ?_
  exact good_of (o1.length + 1 + o2.length + 1) (by simp; try omega) (by omega) (by omega) fun k st h0 hb ht hl => ⟨_, (mo.elim (fun h => (.inl (congrArg (st.v + ·) h))) (fun h => (.inr (.inr (.inl (congrArg (st.v + ·) h)))))), sx_part0 g1 h0 hb ht (Nat.le_of_succ_le hl) (by (try dsimp only); try omega) (sx_catch rfl h0 hb (by (try dsimp only); try omega) (by (try dsimp only); try omega) (sx_part g2 h0 hb top_snoc (by rw [List.length_append, List.length_singleton]; omega) rfl (by (try dsimp only); try omega) (sx_pop (by (try dsimp only); try omega) hb ht (by (try dsimp only); try omega) (by (try dsimp only); try omega) sx_nil)))⟩
theorem good_6 {n : Nat} {o1 o2 : List Op} {d1 d2 : Int} (g1 : Good n o1 d1) (g2 : Good n o2 d2) : Good (n + 1) (o1 ++ [Op.gnil ((o1.length : Int) + 1 + (o2.length : Int) + 2)] ++ o2.map (Op.move ((o1.length : Int) + 1)) ++ [Op.discard, Op.goto 0, Op.const 0]) (max d1 d2) := by
  have sh : o1 ++ [Op.gnil ((o1.length : Int) + 1 + (o2.length : Int) + 2)] ++ o2.map (Op.move ((o1.length : Int) + 1)) ++ [Op.discard, Op.goto 0, Op.const 0] = o1 ++ (Op.gnil ((o1.length : Int) + 1 + (o2.length : Int) + 2) :: (o2.map (Op.move ((o1.length : Int) + 1)) ++ (Op.discard :: (Op.goto 0 :: (Op.const 0 :: []))))) := (by simp [chain, mv_zero, Op.move, Int.add_assoc])
  have q1 := g1.2.1
  rw [sh]
  refine good_max fun D m1 m2 mo => ?_
  exact good_of (o1.length + 1 + o2.length + 3) (by simp; try omega) (by omega) (by omega) fun k st h0 hb ht hl => ⟨_, (mo.elim (fun h => (.inl (congrArg (st.v + ·) h))) (fun h => (.inr (.inr (.inl (congrArg (st.v + ·) h)))))), sx_part0 g1 h0 hb ht (Nat.le_of_succ_le hl) (by (try dsimp only); try omega) (sx_gnil (jt := o1.length + 1 + o2.length + 2) rfl h0 hb ht (Nat.le_trans (Nat.le_add_right _ _) hl) (by (try dsimp only); try omega) (sx_part g2 h0 hb ht (Nat.le_of_succ_le hl) rfl (by (try dsimp only); try omega) (sx_plain plain_discard (by (try dsimp only [Op.popped, Op.pushed, Op.binds, Op.needed]); try omega) (by (try dsimp only [Op.popped, Op.pushed, Op.binds, Op.needed]); try omega) (by (try dsimp only [Op.popped, Op.pushed, Op.binds, Op.needed]); try omega) (by (try dsimp only); try omega) (ht.up (by (try dsimp only); try omega)) (Nat.le_trans (Nat.le_add_right _ _) hl) (by (try dsimp only); try omega) (by (try dsimp only); try omega) (v' := st.v) (b' := st.b) (sx_goto (jt := 0) (Nat.le_add_right k _) rfl (fun _ _ e => e) h0 hb ht (Nat.le_trans (Nat.le_add_right _ _) hl) (by (try dsimp only); try omega) (sx_plain (plain_const (by decide) (by decide)) (v := st.v) (b := st.b) (by (try dsimp only [Op.popped, Op.pushed, Op.binds, Op.needed]); try omega) (by (try dsimp only [Op.popped, Op.pushed, Op.binds, Op.needed]); try omega) h0 hb ht (Nat.le_trans (Nat.le_add_right _ _) hl) (by (try dsimp only); try omega) (by (try dsimp only); try omega) sx_nil)))))⟩
theorem good_7 {n : Nat} {o1 o2 : List Op} {d1 d2 : Int} (g1 : Good n o1 d1) (g2 : Good n o2 d2) : Good (n + 1) (chain [o1, o2, [.cons]]) (max d1 (1 + d2)) := by
  have sh : chain [o1, o2, [.cons]] = o1 ++ (o2.map (Op.move ((o1.length : Int))) ++ (Op.cons :: [])) := (by simp [chain, mv_zero, Op.move, Int.add_assoc])
  have q1 := g1.2.1
  have q2 := g2.2.1
  rw [sh]
  refine good_max fun D m1 m2 mo => ?_
  exact good_of (o1.length + o2.length + 1) (by simp; try omega) (by omega) (by omega) fun k st h0 hb ht hl => ⟨_, (mo.elim (fun h => (.inl (congrArg (st.v + ·) h))) (fun h => (.inr (.inl (by show st.v + 1 + _ = st.v + D; omega))))), sx_part0 g1 h0 hb ht (Nat.le_of_succ_le hl) (by (try dsimp only); try omega) (sx_part g2 (by (try dsimp only); try omega) hb ht (Nat.le_of_succ_le hl) rfl (by (try dsimp only); try omega) (sx_plain plain_cons (by (try dsimp only [Op.popped, Op.pushed, Op.binds, Op.needed]); try omega) (by (try dsimp only [Op.popped, Op.pushed, Op.binds, Op.needed]); try omega) (by (try dsimp only [Op.popped, Op.pushed, Op.binds, Op.needed]); try omega) (by (try dsimp only); try omega) (ht.up (by (try dsimp only); try omega)) (Nat.le_trans (Nat.le_add_right _ _) hl) (by (try dsimp only); try omega) (by (try dsimp only); try omega) (v' := st.v + 1) (b' := st.b) sx_nil))⟩
theorem good_8 {n : Nat} {o1 o2 o3 : List Op} {d1 d2 d3 : Int} (g1 : Good n o1 d1) (g2 : Good n o2 d2) (g3 : Good n o3 d3) : Good (n + 1) (chain [o1, o2, o3, [.call]]) (max (max d1 (1 + d2)) (2 + d3)) := by
  have sh : chain [o1, o2, o3, [.call]] = o1 ++ (o2.map (Op.move ((o1.length : Int))) ++ (o3.map (Op.move ((o1.length : Int) + (o2.length : Int))) ++ (Op.call :: []))) := (by simp [chain, mv_zero, Op.move, Int.add_assoc])
  have q1 := g1.2.1
  have q3 := g3.2.1
  rw [sh]
  refine good_max3 fun D m1 m2 m3 mo => ?_
  exact good_of (o1.length + o2.length + o3.length + 1) (by simp; try omega) (by omega) (by omega) fun k st h0 hb ht hl => ⟨_, (mo.elim (fun h => (.inl (congrArg (st.v + ·) h))) (fun mo => mo.elim (fun h => (.inr (.inl (by show st.v + 1 + _ = st.v + D; omega)))) (fun h => (.inr (.inr (.inl (by show st.v + 1 + 1 + _ = st.v + D; omega))))))), sx_part0 g1 h0 hb ht (Nat.le_of_succ_le hl) (by (try dsimp only); try omega) (sx_part g2 (by (try dsimp only); try omega) hb ht (Nat.le_of_succ_le hl) rfl (by (try dsimp only); try omega) (sx_part g3 (by (try dsimp only); try omega) hb ht (Nat.le_of_succ_le hl) rfl (by (try dsimp only); try omega) (sx_plain plain_call (by (try dsimp only [Op.popped, Op.pushed, Op.binds, Op.needed]); try omega) (by (try dsimp only [Op.popped, Op.pushed, Op.binds, Op.needed]); try omega) (by (try dsimp only [Op.popped, Op.pushed, Op.binds, Op.needed]); try omega) (by (try dsimp only); try omega) (ht.up (by (try dsimp only); try omega)) (Nat.le_trans (Nat.le_add_right _ _) hl) (by (try dsimp only); try omega) (by (try dsimp only); try omega) (v' := st.v + 1) (b' := st.b) sx_nil)))⟩
theorem good_9 {n : Nat} {o1 : List Op} {d1 : Int} (g1 : Good n o1 d1) : Good (n + 1) (o1 ++ [Op.dup, Op.eq]) (max d1 2) := by
  refine good_max fun D m1 m2 mo => ?_
  exact good_of (o1.length + 1 + 1) (by simp; try omega) (by omega) (by omega) fun k st h0 hb ht hl => ⟨_, (mo.elim (fun h => (.inl (congrArg (st.v + ·) h))) (fun h => (.inr (.inr (.inl (congrArg (st.v + ·) h)))))), sx_part0 g1 h0 hb ht (Nat.le_of_succ_le hl) (by (try dsimp only); try omega) (sx_plain plain_dup (by (try dsimp only [Op.popped, Op.pushed, Op.binds, Op.needed]); try omega) (by (try dsimp only [Op.popped, Op.pushed, Op.binds, Op.needed]); try omega) (by (try dsimp only [Op.popped, Op.pushed, Op.binds, Op.needed]); try omega) (by (try dsimp only); try omega) (ht.up (by (try dsimp only); try omega)) (Nat.le_trans (Nat.le_add_right _ _) hl) (by (try dsimp only); try omega) (by (try dsimp only); try omega) (v' := st.v + 2) (b' := st.b) (sx_plain plain_eq (by (try dsimp only [Op.popped, Op.pushed, Op.binds, Op.needed]); try omega) (by (try dsimp only [Op.popped, Op.pushed, Op.binds, Op.needed]); try omega) (by (try dsimp only [Op.popped, Op.pushed, Op.binds, Op.needed]); try omega) (by (try dsimp only); try omega) (ht.up (by (try dsimp only); try omega)) (Nat.le_trans (Nat.le_add_right _ _) hl) (by (try dsimp only); try omega) (by (try dsimp only); try omega) (v' := st.v + 1) (b' := st.b) sx_nil))⟩
theorem good_10 {n : Nat} {o1 o2 : List Op} {d1 d2 : Int} (g1 : Good n o1 d1) (g2 : Good n o2 d2) : Good (n + 1) (chain [o1, o2, [.stackref, .list3]]) (max (max d1 (1 + d2)) 3) := by
  have sh : chain [o1, o2, [.stackref, .list3]] = o1 ++ (o2.map (Op.move ((o1.length : Int))) ++ (Op.stackref :: (Op.list3 :: []))) := (by simp [chain, mv_zero, Op.move, Int.add_assoc])
  rw [sh]
  refine good_max3 fun D m1 m2 m3 mo => ?_
  exact good_of (o1.length + o2.length + 1 + 1) (by simp; try omega) (by omega) (by omega) fun k st h0 hb ht hl => ⟨_, (mo.elim (fun h => (.inl (congrArg (st.v + ·) h))) (fun mo => mo.elim (fun h => (.inr (.inl (by show st.v + 1 + _ = st.v + D; omega)))) (fun h => (.inr (.inr (.inr (.inl (congrArg (st.v + ·) h)))))))), sx_part0 g1 h0 hb ht (Nat.le_of_succ_le hl) (by (try dsimp only); try omega) (sx_part g2 (by (try dsimp only); try omega) hb ht (Nat.le_of_succ_le hl) rfl (by (try dsimp only); try omega) (sx_plain plain_stackref (by (try dsimp only [Op.popped, Op.pushed, Op.binds, Op.needed]); try omega) (by (try dsimp only [Op.popped, Op.pushed, Op.binds, Op.needed]); try omega) (by (try dsimp only [Op.popped, Op.pushed, Op.binds, Op.needed]); try omega) (by (try dsimp only); try omega) (ht.up (by (try dsimp only); try omega)) (Nat.le_trans (Nat.le_add_right _ _) hl) (by (try dsimp only); try omega) (by (try dsimp only); try omega) (v' := st.v + 3) (b' := st.b) (sx_plain plain_list3 (by (try dsimp only [Op.popped, Op.pushed, Op.binds, Op.needed]); try omega) (by (try dsimp only [Op.popped, Op.pushed, Op.binds, Op.needed]); try omega) (by (try dsimp only [Op.popped, Op.pushed, Op.binds, Op.needed]); try omega) (by (try dsimp only); try omega) (ht.up (by (try dsimp only); try omega)) (Nat.le_trans (Nat.le_add_right _ _) hl) (by (try dsimp only); try omega) (by (try dsimp only); try omega) (v' := st.v + 1) (b' := st.b) sx_nil)))⟩
end Mine
end
section
open PySem
namespace Mine
theorem good_one {o : Op} (K : Plain o) (h1 : o.popped = 0) (h2 : o.pushed = 1) (h3 : o.binds = 0) (h4 : o.needed = 0) : Good 0 [o] 1 := by
  refine ⟨Nat.one_pos, Int.le_refl _, fun k st h0 hb ht hl => ⟨[st], rfl, fun T hA hE => ?_⟩⟩
  have t0 : T k = ⟨st.v, st.b, st.hs⟩ := hA.1
  have tE : T (k + 1) = ⟨st.v + 1, st.b, st.hs⟩ := hE
  have em : mv k [o] = [o] := congrArg (fun x => [x]) (K.move k)
  refine ⟨t0, ?_, ?_, fun P hk hc => ?_⟩
  · rw [em]
    exact ⟨fine_plain K t0 (by rw [tE, h1, h2, h3]; simp) (by omega) (by omega) (by rw [h3]; exact ht.up (by omega)) hl (Nat.le_refl _) (by omega) (by omega), trivial⟩
  · rw [em]
    refine .inl (.inr ?_)
    rw [t0]
    simp only [Op.step, h1, h2]
    omega
  · rw [em] at hc
    have r := cl_plain (i := k + 1) K hc.1 hk rfl
    exact step_p (j := 0) (k := k) hk fun p a b => (Nat.le_antisymm a b) ▸ r
theorem gd_le {code : List Op} {T : Nat → St} {m : Int} (h0 : 0 ≤ m) (h : ∀ i o, code[i]? = some o → (T i).v ≤ m ∧ (o.step (T i)).v ≤ m) : ∀ n, gdTo code T n ≤ m
  | 0 => h0
  | n + 1 => by
    have ih := gd_le h0 h n
    unfold gdTo
    split
    · rename_i o ho
      exact Int.max_le.mpr ⟨Int.max_le.mpr ⟨ih, (h n o ho).1⟩, (h n o ho).2⟩
    · exact ih
theorem gd_mono {code : List Op} {T : Nat → St} {i : Nat} : ∀ n, i ≤ n → gdTo code T i ≤ gdTo code T n
  | 0, h => by rw [show i = 0 by omega]; exact Int.le_refl _
  | n + 1, h => by
    by_cases e : i = n + 1
    · rw [e]; exact Int.le_refl _
    · have ih := gd_mono (code := code) (T := T) (i := i) n (by omega)
      conv => rhs; unfold gdTo
      split
      · exact Int.le_trans ih (Int.le_trans (Int.le_max_left _ _) (Int.le_max_left _ _))
      · exact ih
theorem gd_ge {code : List Op} {T : Nat → St} {i : Nat} {o : Op} (h : code[i]? = some o) (n : Nat) (hn : i < n) : (T i).v ≤ gdTo code T n ∧ (o.step (T i)).v ≤ gdTo code T n := by
  have := gd_mono (code := code) (T := T) (i := i + 1) n hn
  have e : gdTo code T (i + 1) = max (max (gdTo code T i) (T i).v) (o.step (T i)).v := by simp only [gdTo, h]
  rw [e] at this
  exact ⟨Int.le_trans (Int.le_trans (Int.le_max_right _ _) (Int.le_max_left _ _)) this, Int.le_trans (Int.le_max_right _ _) this⟩
theorem good_end {n : Nat} {ops : List Op} {d : Int} (g : Good n ops d) (hn : n ≤ 1000) (hz : ops.length < 1000) : ∃ T, WellMade (ops ++ [Op.ret]) T ∧ gdTo (ops ++ [Op.ret]) T (ops ++ [Op.ret]).length = d ∧
    (∀ o ∈ ops ++ [Op.ret], o.InRange (ops ++ [Op.ret]).length) ∧ T 0 = ⟨0, 0, []⟩ ∧ T ops.length = ⟨1, 0, []⟩ ∧ 1 ≤ d := by
  obtain ⟨p, q, H⟩ := g
  obtain ⟨ss, l, H⟩ := H 0 ⟨0, 0, []⟩ (Int.le_refl _) (Int.le_refl _) (fun x hx => nomatch hx) (by simpa using hn)
  let T : Nat → St := fun i => (ss ++ [⟨1, 0, []⟩])[i]?.getD ⟨0, 0, []⟩
  have tE : T ops.length = ⟨1, 0, []⟩ := by
    show ((ss ++ [⟨1, 0, []⟩])[ops.length]?.getD ⟨0, 0, []⟩) = _
    rw [← l, List.getElem?_append_right (Nat.le_refl _)]
    simp
  have hA : AllAt (fun p s => T p = s) 0 ss := allAt_of fun i x e => by
    show ((ss ++ [⟨1, 0, []⟩])[0 + i]?.getD ⟨0, 0, []⟩) = x
    have hi := (List.getElem?_eq_some_iff.mp e).1
    rw [Nat.zero_add, List.getElem?_append_left hi, e]
    rfl
  have P := H T hA (by rw [Nat.zero_add]; exact tE)
  have hmv : mv ((0 : Nat) : Int) ops = ops := mv_zero ops
  have t0 := P.head
  have hf := P.fine
  have hh := P.hit
  have hr := P.reach
  rw [hmv] at hf hh
  simp only [hmv] at hr
  simp only [Nat.zero_add, Int.zero_add] at hf hh hr
  have at1 : ∀ i o, (ops ++ [Op.ret])[i]? = some o → (∃ h : i < ops.length, ops[i]? = some o) ∨ (i = ops.length ∧ o = .ret) := by
    intro i o e
    by_cases h : i < ops.length
    · exact .inl ⟨h, by rwa [List.getElem?_append_left h] at e⟩
    · rw [List.getElem?_append_right (by omega)] at e
      have : i - ops.length = 0 := by
        rcases Nat.eq_zero_or_pos (i - ops.length) with h0 | h0
        · exact h0
        · rw [List.getElem?_eq_none (by simp; omega)] at e; cases e
      rw [this] at e
      simp at e
      exact .inr ⟨by omega, e.symm⟩
  have fin : ∀ {i o}, ops[i]? = some o → Fine T ops.length d i o := fun e => by have := allAt_get hf e; rwa [Nat.zero_add] at this
  have hlen : (ops ++ [Op.ret]).length = ops.length + 1 := by simp
  have rs : Op.ret.step (T ops.length) = ⟨0, 0, []⟩ := by rw [tE]; rfl
  refine ⟨T, ⟨t0, by rw [hlen]; omega, by rw [hlen]; omega, ?_, ?_, ?_, ?_, ?_⟩, ?_, ?_, t0, tE, q⟩
  · intro i o e
    rcases at1 i o e with ⟨_, e⟩ | ⟨rfl, rfl⟩
    · exact (fin e).ok
    · rw [tE]
      exact ⟨by decide, by decide, fun h => absurd (show (0 : Int) < 0 from h) (by decide), fun x hx => (nomatch (show (none : Option (Int × Int × Int)) = some x from hx)), by simp⟩
  · intro i o e w hw
    rcases at1 i o e with ⟨_, e⟩ | ⟨rfl, rfl⟩
    · obtain ⟨j, a, c, x⟩ := (fin e).ways w hw
      exact ⟨j, a, by rw [hlen]; exact Nat.lt_succ_of_le c, x⟩
    · cases hw
  · intro i e
    rcases at1 i _ e with ⟨_, e⟩ | ⟨rfl, _⟩
    · exact absurd rfl (fin e).nret
    · exact rs
  · intro i o e
    rcases at1 i o e with ⟨_, e⟩ | ⟨rfl, rfl⟩
    · exact (fin e).size
    · rw [rs]; simp
  · intro Q q0 hc i hi
    refine hr Q q0 (allAt_of fun j o e hq w hw j' hj' => ?_) i (by omega) (by rw [hlen] at hi; omega)
    rw [Nat.zero_add] at hq hw
    have hj := (List.getElem?_eq_some_iff.mp e).1
    exact hc j o (by rw [List.getElem?_append_left hj]; exact e) hq w hw j' hj'
  · refine Int.le_antisymm (gd_le (by omega) (fun i o e => ?_) _) ?_
    · rcases at1 i o e with ⟨_, e⟩ | ⟨rfl, rfl⟩
      · exact ⟨(fin e).le, (fin e).le2⟩
      · rw [rs, tE]; exact ⟨q, by show (0 : Int) ≤ d; omega⟩
    · obtain ⟨i, o, e, h⟩ := someAt_get hh
      rw [Nat.zero_add] at h
      have hi := (List.getElem?_eq_some_iff.mp e).1
      have := gd_ge (code := ops ++ [Op.ret]) (T := T) (i := i) (o := o) (by rw [List.getElem?_append_left hi]; exact e) (ops ++ [Op.ret]).length (by rw [hlen]; omega)
      rcases h with h | h <;> rw [← h]
      · exact this.1
      · exact this.2
  · intro o ho
    rcases List.mem_append.mp ho with h | h
    · obtain ⟨i, hi⟩ := List.getElem?_of_mem h
      exact (fin hi).range _ (by rw [hlen]; omega)
    · rw [List.mem_singleton.mp h]; trivial
end Mine
end
section
open PySem PySem.W PyProof.Rows PySem.Calls
set_option maxRecDepth 100000
set_option maxHeartbeats 1000000
namespace Mine
/-! ## calls from law -/
theorem upd_news {h₀ h h' : Heap} {L d : Addr} {m : Str → Option Value} {old o : Obj} {news nw : List (Addr × Obj)} (F : Fr h₀ L h m) (N : News h₀ L h news) (U : Upd d old o news nw)
    (hk : ∀ b o, b ≠ d → h.get? b = some o → h'.get? b = some o) (hd : h'.get? d = some o) : Fr h₀ L h' m ∧ News h₀ L h' nw := by
  refine Classical.byContradiction fun hn9 => ?_
  obtain ⟨pre, post, rfl, rfl, a, b⟩ := U.split
  (refine hn9 ?_; clear hn9)
  have z := N (d, old) (List.mem_append.mpr (.inr (.head _)))
  refine ⟨fr_part F (fun b o h1 _ e => hk b o h1 e) (Ne.symm z.2.1) (Ne.symm z.2.1) z.2.2 z.2.2, fun p hp => ?_⟩
  rcases List.mem_append.mp hp with hp | hp
  · have q := N p (List.mem_append.mpr (.inl hp))
    exact ⟨hk _ _ (a p hp) q.1, q.2⟩
  · rcases List.mem_cons.mp hp with rfl | hp
    · exact ⟨hd, z.2⟩
    · have q := N p (List.mem_append.mpr (.inr (.tail _ hp)))
      exact ⟨hk _ _ (b p hp) q.1, q.2⟩
theorem news_new {h₀ h h' : Heap} {L a : Addr} {m : Str → Option Value} {o : Obj} (F : Fr h₀ L h m) (hn : h.get? a = none) (ha : h'.get? a = some o) : h'.get? a = some o ∧ a ≠ L ∧ h₀.get? a = none := by
  refine ⟨ha, fun e => ?_, ?_⟩
  · refine Classical.byContradiction fun hn9 => ?_
    obtain ⟨oL, _, _, hL, _⟩ := F.ns
    (refine hn9 ?_; clear hn9)
    rw [e, hL] at hn; cases hn
  · cases q : h₀.get? a with
    | none => rfl
    | some o' => rw [F.keep _ _ q] at hn; cases hn
theorem off_of_none {h h₀ : Heap} {L a : Addr} {news : List (Addr × Obj)} (N : News h₀ L h news) (hn : h.get? a = none) : ∀ p ∈ news, p.1 ≠ a := fun p hp e => by
  have := (N p hp).1
  rw [e, hn] at this; cases this
section
variable {w : World} {s : Shared} {mg mb : Str → Option Value} {dp un : Nat} {fr : Option (List Env)} {gd : Option (List Code)} {R : Result → Shared → Prop}
theorem call_dip {h₀ : Heap} {L : Addr} {m : Str → Option Value} {news : List (Addr × Obj)} {E : Value → Shared → Prop} {Q : Value → Shared → Prop} (nw : Obj → List (Addr × Obj)) (F : Fr h₀ L s.heap m) (N : News h₀ L s.heap news) (X : (kk.heap_1 w.params).In h₀) (T : TopRead vw (looseW vw [Str.ofString "ROWS"]) mg mb h₀) (hD : dp + 3 ≤ 400)
    {pot cl : Addr} {ca za many : Int} {t1 t2 t3 : Tok} {pn cn : Nat} {cvs : List Value} {cs : List Int}
    (U : ∀ o, Upd pot (lstObj [.ref cl, .int ca t1, .int za t2] pn) o news (nw o)) (hcl : (cl, lstObj cvs cn) ∈ news) (hne : cl ≠ pot) (hcs : IntsAre cvs cs) (hz : cs.length ≤ 100) (hc0 : ∀ c ∈ cs, 0 ≤ c ∧ c < 1000003) (h0 : 0 ≤ ca) (h1 : ca ≤ 1000) (h2 : 0 ≤ za) (h3 : za < 100000) (hm : 0 < many) (hm2 : many ≤ 100)
    (hQ : ∀ h' tk r t za' u1 u2 n', Fr h₀ L h' m → News h₀ L h' (nw (lstObj [.ref cl, .int (ca + 1) u1, .int za' u2] n')) → 0 ≤ za' → za' < 100000 → 0 ≤ r → r < many → Q (.int r t) { s with heap := h', toks := tk }) :
    wpAny (model PySem.Challenge.rw_rg0136_01.row.toRowW.prog w) (Ar dp un fr gd) (call (.ref 352) [.ref pot, .int many t3]) Q E s := by
  have hp : (pot, lstObj [.ref cl, .int ca t1, .int za t2] pn) ∈ news := by
    refine Classical.byContradiction fun hn9 => ?_
    obtain ⟨pre, post, e, _⟩ := (U default).split
    (refine hn9 ?_; clear hn9)
    rw [e]; exact List.mem_append.mpr (.inr (.head _))
  refine wpAny_call (dip_ok F N X T hD hp (N _ hcl).1 hne hcs hz hc0 h0 h1 h2 h3 hm hm2 fun h' tk r t ca' za' u1 u2 n' hk hd e a b c d => ?_)
  subst e
  have q := upd_news F N (U _) hk hd
  exact hQ h' tk r t za' u1 u2 n' q.1 q.2 a b c d
theorem call_pot {h₀ : Heap} {L : Addr} {m : Str → Option Value} {news : List (Addr × Obj)} {E : Value → Shared → Prop} {Q : Value → Shared → Prop} (F : Fr h₀ L s.heap m) (N : News h₀ L s.heap news) (X : (kk.heap_1 w.params).In h₀) (T : TopRead vw (looseW vw [Str.ofString "ROWS"]) mg mb h₀) (hD : dp + 3 ≤ 400) (hU : un + 60 ≤ 5000)
    {sc : Addr} {vs : List Value} {ns : List Int} (hs : h₀.IsList sc vs.toArray) (hi : IntsAre vs ns) (hz : ns.length ≤ 63) (hlay : PyData.layable0 (.list (ns.map .int)) = true)
    (hQ : ∀ h' tk p cl cvs cs t1 z t2 n1 n2, Fr h₀ L h' m → News h₀ L h' ((p, lstObj [.ref cl, .int 0 t1, .int z t2] n1) :: (cl, lstObj cvs n2) :: news) → @Ne Nat cl p → (∀ q ∈ news, q.1 ≠ p) → (∀ q ∈ news, q.1 ≠ cl) → IntsAre cvs cs → cs.length ≤ 48 → (∀ c ∈ cs, 0 ≤ c ∧ c < 1000003) → 31 ≤ z → z < 100000 → Q (.ref p) { s with heap := h', toks := tk }) :
    wpAny (model PySem.Challenge.rw_rg0136_01.row.toRowW.prog w) (Ar dp un fr gd) (call (.ref 345) [.ref sc]) Q E s := by
  refine wpAny_call (pot_ok (X.keeps F.keep) (T.keeps F.keep) hD hU (Fr.lst F hs) hi hz hlay fun h' tk p cl cvs cs t1 z t2 n1 n2 hk a b c d e f g h i => ?_)
  refine hQ h' tk p cl cvs cs t1 z t2 n1 n2 (F.keeps hk) (fun q hq => ?_) ?_ (off_of_none N a) (off_of_none N b) e f g h i
  · rcases List.mem_cons.mp hq with rfl | hq
    · exact news_new F a c
    · rcases List.mem_cons.mp hq with rfl | hq
      · exact news_new F b d
      · exact N.grown hk q hq
  · intro q
    rw [q, c] at d
    injection d with d
    injection d with d1 d2 d3 d4
    injection d3 with d5 d6
    have d7 := congrArg Array.toList d5
    simp only [List.toList_toArray] at d7
    subst d7
    cases e
end
end Mine
end
section
open PySem PySem.W PyProof.Rows PySem.Calls
set_option maxRecDepth 100000
set_option maxHeartbeats 1000000
namespace Mine
/-! ## joined, whichever the way -/
noncomputable def joinOf (w : Int) (o1 o2 o3 : List Op × Int) : List Op × Int :=
  if w = 0 then (chain [o1.1, [.discard], o2.1], max o1.2 o2.2)
  else if w = 1 then (o1.1 ++ [Op.gnil ((o1.1.length : Int) + 1 + (o2.1.length : Int) + 1)] ++ o2.1.map (Op.move ((o1.1.length : Int) + 1)) ++ [Op.goto ((o1.1.length : Int) + 1 + (o2.1.length : Int) + 1 + (o3.1.length : Int))] ++ o3.1.map (Op.move ((o1.1.length : Int) + 1 + (o2.1.length : Int) + 1)), max (max o1.2 o2.2) o3.2)
  else if w = 2 then (o1.1 ++ [Op.gnonpop ((o1.1.length : Int) + 1 + (o2.1.length : Int))] ++ o2.1.map (Op.move ((o1.1.length : Int) + 1)), max o1.2 o2.2)
  else if w = 3 then (o1.1 ++ [Op.gnilpop ((o1.1.length : Int) + 1 + (o2.1.length : Int))] ++ o2.1.map (Op.move ((o1.1.length : Int) + 1)), max o1.2 o2.2)
  else if w = 4 then (chain [o1.1, [.varbind], o2.1, [.unbind]], max o1.2 o2.2)
  else if w = 5 then (o1.1 ++ [Op.pcatch ((o1.1.length : Int) + 1 + (o2.1.length : Int) + 1)] ++ o2.1.map (Op.move ((o1.1.length : Int) + 1)) ++ [Op.pop], max o1.2 o2.2)
  else if w = 6 then (o1.1 ++ [Op.gnil ((o1.1.length : Int) + 1 + (o2.1.length : Int) + 2)] ++ o2.1.map (Op.move ((o1.1.length : Int) + 1)) ++ [Op.discard, Op.goto 0, Op.const 0], max o1.2 o2.2)
  else if w = 7 then (chain [o1.1, o2.1, [.cons]], max o1.2 (1 + o2.2))
  else if w = 8 then (chain [o1.1, o2.1, o3.1, [.call]], max (max o1.2 (1 + o2.2)) (2 + o3.2))
  else if w = 9 then (o1.1 ++ [Op.dup, Op.eq], max o1.2 2)
  else (chain [o1.1, o2.1, [.stackref, .list3]], max (max o1.2 (1 + o2.2)) 3)
theorem eleven {w : Int} (h0 : 0 ≤ w) (h1 : w < 11) : w = 0 ∨ w = 1 ∨ w = 2 ∨ w = 3 ∨ w = 4 ∨ w = 5 ∨ w = 6 ∨ w = 7 ∨ w = 8 ∨ w = 9 ∨ w = 10 := by
  match w, h0, h1 with
  | .ofNat 0, _, _ => exact .inl rfl
  | .ofNat 1, _, _ => exact .inr (.inl rfl)
  | .ofNat 2, _, _ => exact .inr (.inr (.inl rfl))
  | .ofNat 3, _, _ => exact .inr (.inr (.inr (.inl rfl)))
  | .ofNat 4, _, _ => exact .inr (.inr (.inr (.inr (.inl rfl))))
  | .ofNat 5, _, _ => exact .inr (.inr (.inr (.inr (.inr (.inl rfl)))))
  | .ofNat 6, _, _ => exact .inr (.inr (.inr (.inr (.inr (.inr (.inl rfl))))))
  | .ofNat 7, _, _ => exact .inr (.inr (.inr (.inr (.inr (.inr (.inr (.inl rfl)))))))
  | .ofNat 8, _, _ => exact .inr (.inr (.inr (.inr (.inr (.inr (.inr (.inr (.inl rfl))))))))
  | .ofNat 9, _, _ => exact .inr (.inr (.inr (.inr (.inr (.inr (.inr (.inr (.inr (.inl rfl)))))))))
  | .ofNat 10, _, _ => exact .inr (.inr (.inr (.inr (.inr (.inr (.inr (.inr (.inr (.inr rfl)))))))))
  | .ofNat (n + 11), _, h => exact absurd h (by simp; omega)
  | .negSucc n, h, _ => exact absurd h (by simp)
theorem join_good {w : Int} {o1 o2 o3 : List Op × Int} {n : Nat} (h0 : 0 ≤ w) (h1 : w < 11) (g1 : Good n o1.1 o1.2) (g2 : Good n o2.1 o2.2) (g3 : Good n o3.1 o3.2) : Good (n + 1) (joinOf w o1 o2 o3).1 (joinOf w o1 o2 o3).2 := by
  rcases eleven h0 h1 with rfl | rfl | rfl | rfl | rfl | rfl | rfl | rfl | rfl | rfl | rfl
  · exact good_0 g1 g2
  · exact good_1 g1 g2 g3
  · exact good_2 g1 g2
  · exact good_3 g1 g2
  · exact good_4 g1 g2
  · exact good_5 g1 g2
  · exact good_6 g1 g2
  · exact good_7 g1 g2
  · exact good_8 g1 g2 g3
  · exact good_9 g1
  · exact good_10 g1 g2
theorem chain_length (ps : List (List Op)) : (chain ps).length = (ps.map List.length).sum := by
  have key : ∀ (ps : List (List Op)) (acc : List Op), (ps.foldl (fun acc p => acc ++ p.map (Op.move acc.length)) acc).length = acc.length + (ps.map List.length).sum := by
    intro ps
    induction ps with
    | nil => intro acc; simp
    | cons p r ih => intro acc; rw [List.foldl_cons, ih]; simp; omega
  have := key ps []
  rw [List.length_nil, Nat.zero_add] at this
  exact this
theorem join_length {w : Int} {o1 o2 o3 : List Op × Int} (h0 : 0 ≤ w) (h1 : w < 11) (hp : 0 < o3.1.length) : (joinOf w o1 o2 o3).1.length ≤ o1.1.length + o2.1.length + o3.1.length + 3 := by
  rcases eleven h0 h1 with rfl | rfl | rfl | rfl | rfl | rfl | rfl | rfl | rfl | rfl | rfl <;> simp [joinOf, chain_length] <;> omega
section
variable {w : World} {s : Shared} {mg mb : Str → Option Value} {dp un : Nat} {fr : Option (List Env)} {gd : Option (List Code)} {R : Result → Shared → Prop}
theorem joined_any {h₀ : Heap} {L : Addr} {m : Str → Option Value} {imm : List (Addr × Obj)} (F₀ : Fr h₀ L s.heap m) (N₀ : News h₀ L s.heap imm) (X₀ : (kk.heap_1 w.params).In h₀) (T₀ : TopRead vw (looseW vw [Str.ofString "ROWS"]) mg mb h₀) {w₁ : Int} {way1 : Tok} {one two three : Value} {o1 o2 o3 : List Op × Int} (h0 : 0 ≤ w₁) (h1 : w₁ < 11) (hD : dp + 9 ≤ 400) (hU : un + 120 ≤ 5000) (p1 : PoolAt (Hs Em imm) one o1) (p2 : PoolAt (Hs Em imm) two o2) (p3 : PoolAt (Hs Em imm) three o3) (z1 : o1.1.length ≤ 300) (z2 : o2.1.length ≤ 300) (z3 : o3.1.length ≤ 300) (hp : 0 < o3.1.length)
    (hR : ∀ h' tk b, s.heap.StaysIn h' → PoolAt (Ext (Hs Em imm) s.heap h') b (joinOf w₁ o1 o2 o3) → R (.ok (.ret b)) { s with heap := h', toks := tk }) : codeAny (model PySem.Challenge.rw_rg0136_01.row.toRowW.prog w) (Ar dp un fr gd) (.call (.ref 378) ⟨[.int w₁ way1, one, two, three], []⟩) R s := by
  have hz := join_length (o1 := o1) (o2 := o2) (o3 := o3) h0 h1 hp
  have hz : (joinOf w₁ o1 o2 o3).1.length ≤ 1000 := by omega
  have z1 : o1.1.length ≤ 1000 := by omega
  have z2 : o2.1.length ≤ 1000 := by omega
  have z3 : o3.1.length ≤ 1000 := by omega
  rcases eleven h0 h1 with rfl | rfl | rfl | rfl | rfl | rfl | rfl | rfl | rfl | rfl | rfl
  · exact joined_0 F₀ N₀ X₀ T₀ hD hU p1 p2 p3 hz z1 z2 z3 hR
  · exact joined_1 F₀ N₀ X₀ T₀ hD hU p1 p2 p3 hz z1 z2 z3 hR
  · exact joined_2 F₀ N₀ X₀ T₀ hD hU p1 p2 p3 hz z1 z2 z3 hR
  · exact joined_3 F₀ N₀ X₀ T₀ hD hU p1 p2 p3 hz z1 z2 z3 hR
  · exact joined_4 F₀ N₀ X₀ T₀ hD hU p1 p2 p3 hz z1 z2 z3 hR
  · exact joined_5 F₀ N₀ X₀ T₀ hD hU p1 p2 p3 hz z1 z2 z3 hR
  · exact joined_6 F₀ N₀ X₀ T₀ hD hU p1 p2 p3 hz z1 z2 z3 hR
  · exact joined_7 F₀ N₀ X₀ T₀ hD hU p1 p2 p3 hz z1 z2 z3 hR
  · exact joined_8 F₀ N₀ X₀ T₀ hD hU p1 p2 p3 hz z1 z2 z3 hR
  · exact joined_9 F₀ N₀ X₀ T₀ hD hU p1 p2 p3 hz z1 z2 z3 hR
  · exact joined_10 F₀ N₀ X₀ T₀ hD hU p1 p2 p3 hz z1 z2 z3 hR
theorem call_joined {h₀ : Heap} {L : Addr} {m : Str → Option Value} {news imm : List (Addr × Obj)} {E : Value → Shared → Prop} {Q : Value → Shared → Prop} (F : Fr h₀ L s.heap m) (N : News h₀ L s.heap news) (X : (kk.heap_1 w.params).In h₀) (T : TopRead vw (looseW vw [Str.ofString "ROWS"]) mg mb h₀) (hm : ∀ p ∈ imm, p ∈ news)
    {w₁ : Int} {way1 : Tok} {one two three : Value} {o1 o2 o3 : List Op × Int} (h0 : 0 ≤ w₁) (h1 : w₁ < 11) (hD : dp + 9 ≤ 400) (hU : un + 120 ≤ 5000) (p1 : PoolAt (Hs Em imm) one o1) (p2 : PoolAt (Hs Em imm) two o2) (p3 : PoolAt (Hs Em imm) three o3) (z1 : o1.1.length ≤ 300) (z2 : o2.1.length ≤ 300) (z3 : o3.1.length ≤ 300) (hp : 0 < o3.1.length)
    (hQ : ∀ h' tk b new, s.heap.StaysIn h' → Fr h₀ L h' m → News h₀ L h' news → News h₀ L h' new → (∀ p ∈ new, s.heap.get? p.1 = none) → PoolAt (Hs Em (new ++ imm)) b (joinOf w₁ o1 o2 o3) → Q b { s with heap := h', toks := tk }) :
    wpAny (model PySem.Challenge.rw_rg0136_01.row.toRowW.prog w) (Ar dp un fr gd) (call (.ref 378) [.int w₁ way1, one, two, three]) Q E s := by
  refine wpAny_call (joined_any F (news_sub N hm) X T h0 h1 hD hU p1 p2 p3 z1 z2 z3 hp fun h' tk b hk hb => ?_)
  refine Classical.byContradiction fun hn9 => ?_
  obtain ⟨new, n1, n2, n3⟩ := grown (σ := Em) (imm := imm) F hk
  (refine hn9 ?_; clear hn9)
  exact hQ h' tk b new hk (F.keeps hk) (N.grown hk) n1 n2 (hb.mono n3)
theorem call_own {h₀ : Heap} {L : Addr} {m : Str → Option Value} {news : List (Addr × Obj)} {E : Value → Shared → Prop} {Q : Value → Shared → Prop} (F : Fr h₀ L s.heap m) (N : News h₀ L s.heap news) (X : (kk.heap_1 w.params).In h₀) (T : TopRead vw (looseW vw [Str.ofString "ROWS"]) mg mb h₀) (hD : dp + 2 ≤ 400) {tt : Tok}
    (hQ : ∀ h' tk x d l1 l2 h1 h2 h3 h4 h5 h6 k1 k2 k3 k4 k5 k6 td, Fr h₀ L h' m → News h₀ L h' ((x, instObj 219 d) :: (d, ownDict h1 h2 h3 h4 h5 h6 k1 k2 k3 k4 k5 k6 tt td l1 l2 0) :: news) → @Ne Nat x d → (∀ q ∈ news, q.1 ≠ x) → (∀ q ∈ news, q.1 ≠ d) → Q (.ref x) { s with heap := h', toks := tk }) :
    wpAny (model PySem.Challenge.rw_rg0136_01.row.toRowW.prog w) (Ar dp un fr gd) (call (.ref 219) [.str (Str.ofString "law") tt, .none]) Q E s := by
  refine wpAny_call (own_new (X.keeps F.keep) (T.keeps F.keep) hD fun h' tk x d l1 l2 h1 h2 h3 h4 h5 h6 k1 k2 k3 k4 k5 k6 td hk a b c e f => ?_)
  refine hQ h' tk x d l1 l2 h1 h2 h3 h4 h5 h6 k1 k2 k3 k4 k5 k6 td (F.keeps hk) (fun q hq => ?_) c (off_of_none N a) (off_of_none N b)
  rcases List.mem_cons.mp hq with rfl | hq
  · exact news_new F a e
  · rcases List.mem_cons.mp hq with rfl | hq
    · exact news_new F b f
    · exact N.grown hk q hq
theorem call_filled {h₀ : Heap} {L : Addr} {m : Str → Option Value} {news : List (Addr × Obj)} {E : Value → Shared → Prop} {Q : Value → Shared → Prop} (nw : Obj → List (Addr × Obj)) (F : Fr h₀ L s.heap m) (N : News h₀ L s.heap news) (X : (kk.heap_1 w.params).In h₀) (T : TopRead vw (looseW vw [Str.ofString "ROWS"]) mg mb h₀) (hD : dp + 2 ≤ 400)
    {x d cl kl cl' kl' : Addr} {dep dep' : Int} {h1 h2 h3 h4 h5 h6 : Int} {k1 k2 k3 k4 k5 k6 tt td td' : Tok}
    (hx : (x, instObj 219 d) ∈ news) (U : ∀ o, Upd d (ownDict h1 h2 h3 h4 h5 h6 k1 k2 k3 k4 k5 k6 tt td cl kl dep) o news (nw o)) (hne : @Ne Nat x d)
    (hQ : ∀ h' tk h1 h2 h3 h4 h5 h6 k1 k2 k3 k4 k5 k6 td, Fr h₀ L h' m → News h₀ L h' (nw (ownDict h1 h2 h3 h4 h5 h6 k1 k2 k3 k4 k5 k6 tt td cl' kl' dep')) → Q .none { s with heap := h', toks := tk }) :
    wpAny (model PySem.Challenge.rw_rg0136_01.row.toRowW.prog w) (Ar dp un fr gd) (call (.ref 216) [.ref x, .ref cl', .ref kl', .int dep' td']) Q E s := by
  have hp : (d, ownDict h1 h2 h3 h4 h5 h6 k1 k2 k3 k4 k5 k6 tt td cl kl dep) ∈ news := by
    refine Classical.byContradiction fun hn9 => ?_
    obtain ⟨pre, post, e, _⟩ := (U default).split
    (refine hn9 ?_; clear hn9)
    rw [e]; exact List.mem_append.mpr (.inr (.head _))
  refine wpAny_call (filled_ok F N X T hD hx hp hne fun h' tk h1 h2 h3 h4 h5 h6 k1 k2 k3 k4 k5 k6 td hk hd => ?_)
  have q := upd_news F N (U _) hk hd
  exact hQ h' tk h1 h2 h3 h4 h5 h6 k1 k2 k3 k4 k5 k6 td q.1 q.2
end
end Mine
end
section
open PySem PySem.W PyProof.Rows PySem.Calls
set_option maxRecDepth 100000
namespace Mine
section
variable {prog : Program} {w : World} {A : Around} {s : Shared} {env : Env} {h₀ : Heap}
/-- a for over a range from 0 whose end is not written; the ledger may grow -/
theorem range_for {E : Value → Shared → Prop} {R : Result → Shared → Prop} {x : Str} {px : Pos} {body : List Stmt} {r : Addr} {n : Nat} {e : Int} {t u v : Tok} {m : Str → Option Value} {news : List (Addr × Obj)}
    (hh : A.handled = none) (hx : env.kindOf x = some .local)
    (hp : (env.scope.kind == .class || (env.scope.kind == .module && env.locals != env.globals)) = false)
    (hr : IsRange s.heap r 0 e 1 t u v) (he : e = (n : Int)) (hz : n ≤ 100000)
    (F : Fr h₀ env.locals s.heap m) (N : News h₀ env.locals s.heap news)
    (J : Nat → (Str → Option Value) → List (Addr × Obj) → Prop) (h0 : J 0 m news)
    (step : ∀ i tk m₁ news₁ h tk' I oi, i < n → J i m₁ news₁ → (∀ p ∈ news₁, p.1 ≠ I) → Fr h₀ env.locals h (fun y => if y = x then some (.int (i : Int) tk) else m₁ y) → News h₀ env.locals h ((I, oi) :: news₁) →
      wpAny (model prog w) A (execs body env) (fun f s₂ => match f with
        | .ret v => R (.ok (.ret v)) s₂
        | .brk => False
        | _ => ∃ h' tk' m₂ news₂, s₂ = { s with heap := h', toks := tk' } ∧ Fr h₀ env.locals h' m₂ ∧ News h₀ env.locals h' ((I, oi) :: news₂) ∧ (∀ p ∈ news₂, p.1 ≠ I) ∧ J (i + 1) m₂ news₂) (notedBy (model prog w) A env fun e s' => R (.error e) s') { s with heap := h, toks := tk' })
    (done : ∀ h' tk m' news', Fr h₀ env.locals h' m' → News h₀ env.locals h' news' → J n m' news' → R (.ok .next) { s with heap := h', toks := tk }) :
    wpAny (model prog w) A (pyIter (.ref r)) (fun it s₂ => codeAny (model prog w) A (.forLoop (.Name x px) it body [] env) R s₂) E s := by
  subst he
  have hLz := F.ns.lt
  refine wpAny_pyIter_range hr (small_one (by omega) (by omega) (by omega) (by omega)) ?_
  have hI0 : h₀.get? s.heap.objs.size = none := by
    cases q : h₀.get? s.heap.objs.size with
    | none => rfl
    | some o => exact absurd (Heap.lt_size (F.keep _ _ q)) (Nat.lt_irrefl _)
  have hIL : env.locals ≠ s.heap.objs.size := Nat.ne_of_lt hLz
  generalize hI : s.heap.objs.size = I at *
  refine codeAny_forLoop_any
    (fun k s' => ∃ h' tk m' news' i, s' = { s with heap := h', toks := tk } ∧ IsRangeIter h' I ((i : Nat) : Int) ((n : Int) - ((i : Nat) : Int)) 1 ∧ Fr h₀ env.locals h' m' ∧ News h₀ env.locals h' news' ∧ (∀ p ∈ news', p.1 ≠ I) ∧ J i m' news' ∧ i ≤ n ∧ k = n + 1 - i)
    ?_ (n + 1) ⟨_, s.toks, m, news, 0, rfl, ?_, F.push _, fun p hp => ⟨Heap.get?_push_of_some _ (N p hp).1, (N p hp).2⟩, fun p hp => Nat.ne_of_lt (hI ▸ Heap.lt_size (N p hp).1), h0, Nat.zero_le _, rfl⟩
  rotate_left
  · rw [rangeSize_nat]
    show Heap.get? _ I = _
    rw [← hI]
    have e : (((n : Int) - 0).toNat : Int) = (n : Int) - ((0 : Nat) : Int) := by omega
    rw [e]
    exact Heap.get?_push_size _ rfl
  intro k s' hq2
  refine Classical.byContradiction fun hn9 => ?_
  obtain ⟨H, tk, m', news', i, rfl, hit', F', N', off, hJ, hi, rfl⟩ := hq2
  (refine hn9 ?_; clear hn9)
  by_cases hlt : i < n
  · refine wpAny_pyNext_range_item hit' (by omega) fun h₁ hit₁ hs₁ => ?_
    have F₁ := F'.change hs₁ (Ne.symm hIL) hI0
    have N₁ : News h₀ env.locals h₁ news' := fun p hp => ⟨hs₁.extBut _ _ (off p hp) (N' p hp).1, (N' p hp).2⟩
    have e1 : ((i : Nat) : Int) + 1 = ((i + 1 : Nat) : Int) := by omega
    have e2 : (n : Int) - ((i : Nat) : Int) - 1 = (n : Int) - ((i + 1 : Nat) : Int) := by omega
    rw [e1, e2] at hit₁
    refine Classical.byContradiction fun hn9 => ?_
    obtain ⟨oi, hoi⟩ : ∃ oi, oi = (Obj.mk (.type "range_iterator") none (.fields #[rawInt ((i + 1 : Nat) : Int), rawInt ((n : Int) - ((i + 1 : Nat) : Int)), rawInt 1]) #[]) := ⟨_, rfl⟩
    (refine hn9 ?_; clear hn9)
    have hit₂ : h₁.get? I = some oi := hoi ▸ hit₁
    have N₁' : News h₀ env.locals h₁ ((I, oi) :: news') := fun p hp => by
      rcases List.mem_cons.mp hp with rfl | hp
      · exact ⟨hit₂, Ne.symm hIL, hI0⟩
      · exact N₁ p hp
    refine wpAny_pure ?_
    refine wpAny_assign_Name (wpAny_storeName_local hx F₁.ns (fun h₄ hn₄ hs₄ => ?_) hp)
    have F₄ := F₁.set hn₄ hs₄
    have N₄ := N₁'.set hs₄
    refine wpAny_mono (step i _ m' news' h₄ _ I oi hlt hJ off F₄ N₄) (fun f s₃ h₆ => ?_) fun _ _ x => x
    have fin : (∃ h' tk' m₂ news₂, s₃ = { s with heap := h', toks := tk' } ∧ Fr h₀ env.locals h' m₂ ∧ News h₀ env.locals h' ((I, oi) :: news₂) ∧ (∀ p ∈ news₂, p.1 ≠ I) ∧ J (i + 1) m₂ news₂) →
        ∃ k, k < n + 1 - i ∧ ∃ h' tk m' news' i, s₃ = { s with heap := h', toks := tk } ∧ IsRangeIter h' I ((i : Nat) : Int) ((n : Int) - ((i : Nat) : Int)) 1 ∧ Fr h₀ env.locals h' m' ∧ News h₀ env.locals h' news' ∧ (∀ p ∈ news', p.1 ≠ I) ∧ J i m' news' ∧ i ≤ n ∧ k = n + 1 - i := by
      intro hq0
      refine Classical.byContradiction fun hn9 => ?_
      obtain ⟨h7, tk7, m7, news7, rfl, F7, N7, off7, hJ7⟩ := hq0
      (refine hn9 ?_; clear hn9)
      exact ⟨n + 1 - (i + 1), Nat.sub_lt_sub_left (Nat.lt_succ_of_le (Nat.le_of_succ_le hlt)) (Nat.lt_succ_self i), h7, tk7, m7, news7, i + 1, rfl, by
        have := (N7 _ (.head _)).1
        rw [hoi] at this
        exact this, F7, fun p hp => N7 p (.tail _ hp), off7, hJ7, by omega, rfl⟩
    cases f with
    | ret v => exact h₆
    | brk => exact h₆.elim
    | next => exact fin h₆
    | cont => exact fin h₆
  · have hsz : i = n := by omega
    refine wpAny_pyNext_range_end hh hit' (by omega) fun h₁ he₁ => wpAny_execs_nil ?_
    have k₁ : ∀ b o, b ≠ I → b ≠ I → H.get? b = some o → h₁.get? b = some o := fun b o _ h2 x => he₁ b o h2 x
    exact done h₁ tk m' news' (fr_part F' k₁ hIL hIL hI0 hI0) (news_part N' k₁ fun p hp => ⟨off p hp, off p hp⟩) (hsz ▸ hJ)
end
end Mine
end
section
open PySem PySem.W PyProof.Rows PySem.Calls
set_option maxRecDepth 100000
set_option maxHeartbeats 1000000
namespace Mine
/-! ## the state of law between its turns -/
noncomputable abbrev potObj (cl : Addr) (ca za : Int) (t1 t2 : Tok) (n : Nat) : Obj := lstObj [.ref cl, .int ca t1, .int za t2] n
/-- the ledger: pool, pot, the cells' list, the two cells; behind them what never changes -/
noncomputable abbrev lawNews (pool pot cl c2 c1 : Addr) (oP oQ oC o2 o1 : Obj) (imm : List (Addr × Obj)) : List (Addr × Obj) := (pool, oP) :: (pot, oQ) :: (cl, oC) :: (c2, o2) :: (c1, o1) :: imm
structure PoolOk (n z : Nat) (pvs : List Value) (parts : List (List Op × Int)) (imm : List (Addr × Obj)) : Prop where
  all : All2 (PoolAt (Hs Em imm)) pvs parts
  good : ∀ x ∈ parts, Good n x.1 x.2 ∧ x.1.length ≤ z ∧ 0 < x.1.length
theorem PoolOk.mono {n z : Nat} {pvs : List Value} {parts : List (List Op × Int)} {imm imm' : List (Addr × Obj)} (h : PoolOk n z pvs parts imm) (hs : ∀ p ∈ imm, p ∈ imm') : PoolOk n z pvs parts imm' := ⟨h.all.mono fun _ _ q => q.mono (hs_more hs), h.good⟩
theorem pool_one {imm : List (Addr × Obj)} {t a i : Addr} {k t1 t2 : Tok} {n1 n2 n3 : Nat} {o : Op} (h1 : (t, tupObj [.ref a, .int 1 k] n1) ∈ imm) (h2 : (a, lstObj [.ref i] n2) ∈ imm) (h3 : (i, tupObj [.str o.word t1, .int o.arg t2] n3) ∈ imm) : PoolAt (Hs Em imm) (.ref t) ([o], 1) :=
  ⟨t, a, k, n1, rfl, .inr h1, [.ref i], ⟨n2, .inr h2⟩, .cons ⟨i, t1, t2, rfl, n3, .inr h3⟩ .nil⟩
theorem law_start {h₀ h : Heap} {L l D D1 D2 D3 D4 D5 l1 l2 l3 p cl c1 c2 : Addr} {oC o1 o2 oQ : Obj} {k1 k2 k3 a1 a2 b1 b2 e1 e2 : Tok} {n0 n1 n2 n3 n4 n5 n6 n7 n8 n9 : Nat}
    (N : News h₀ L h [(l, lstObj [.ref D4, .ref D2, .ref D] n0), (D, tupObj [.ref l1, .int 1 k3] n1), (l1, lstObj [.ref D1] n2), (D1, tupObj [.str (Str.ofString "const") e1, .int 1 e2] n3), (D2, tupObj [.ref l2, .int 1 k2] n4), (l2, lstObj [.ref D3] n5), (D3, tupObj [.str (Str.ofString "varref") b1, .int 1 b2] n6), (D4, tupObj [.ref l3, .int 1 k1] n7), (l3, lstObj [.ref D5] n8), (D5, tupObj [.str (Str.ofString "const") a1, .int 0 a2] n9), (p, oQ), (cl, oC), (c2, o2), (c1, o1)])
    (ne : ((@Ne Nat D l ∧ @Ne Nat l1 l ∧ @Ne Nat D1 l) ∧ (@Ne Nat D2 l ∧ @Ne Nat l2 l ∧ @Ne Nat D3 l) ∧ (@Ne Nat D4 l ∧ @Ne Nat l3 l ∧ @Ne Nat D5 l)) ∧ ((@Ne Nat D p ∧ @Ne Nat l1 p ∧ @Ne Nat D1 p) ∧ (@Ne Nat D2 p ∧ @Ne Nat l2 p ∧ @Ne Nat D3 p) ∧ (@Ne Nat D4 p ∧ @Ne Nat l3 p ∧ @Ne Nat D5 p))) :
    ∃ imm pvs parts, News h₀ L h (lawNews l p cl c2 c1 (lstObj pvs n0) oQ oC o2 o1 imm) ∧ PoolOk 0 1 pvs parts imm ∧ parts.length = 3 ∧ (∀ q ∈ imm, @Ne Nat q.1 l) ∧ (∀ q ∈ imm, @Ne Nat q.1 p) := by
  refine Classical.byContradiction fun hn9 => ?_
  obtain ⟨⟨⟨x1, x2, x3⟩, ⟨x4, x5, x6⟩, x7, x8, x9⟩, ⟨y1, y2, y3⟩, ⟨y4, y5, y6⟩, y7, y8, y9⟩ := ne
  (refine hn9 ?_; clear hn9)
  refine Classical.byContradiction fun hn9 => ?_
  obtain ⟨r0, N⟩ := List.forall_mem_cons.mp N
  (refine hn9 ?_; clear hn9)
  refine Classical.byContradiction fun hn9 => ?_
  obtain ⟨r1, N⟩ := List.forall_mem_cons.mp N
  (refine hn9 ?_; clear hn9)
  refine Classical.byContradiction fun hn9 => ?_
  obtain ⟨r2, N⟩ := List.forall_mem_cons.mp N
  (refine hn9 ?_; clear hn9)
  refine Classical.byContradiction fun hn9 => ?_
  obtain ⟨r3, N⟩ := List.forall_mem_cons.mp N
  (refine hn9 ?_; clear hn9)
  refine Classical.byContradiction fun hn9 => ?_
  obtain ⟨r4, N⟩ := List.forall_mem_cons.mp N
  (refine hn9 ?_; clear hn9)
  refine Classical.byContradiction fun hn9 => ?_
  obtain ⟨r5, N⟩ := List.forall_mem_cons.mp N
  (refine hn9 ?_; clear hn9)
  refine Classical.byContradiction fun hn9 => ?_
  obtain ⟨r6, N⟩ := List.forall_mem_cons.mp N
  (refine hn9 ?_; clear hn9)
  refine Classical.byContradiction fun hn9 => ?_
  obtain ⟨r7, N⟩ := List.forall_mem_cons.mp N
  (refine hn9 ?_; clear hn9)
  refine Classical.byContradiction fun hn9 => ?_
  obtain ⟨r8, N⟩ := List.forall_mem_cons.mp N
  (refine hn9 ?_; clear hn9)
  refine Classical.byContradiction fun hn9 => ?_
  obtain ⟨r9, N⟩ := List.forall_mem_cons.mp N
  (refine hn9 ?_; clear hn9)
  refine Classical.byContradiction fun hn9 => ?_
  obtain ⟨r10, N⟩ := List.forall_mem_cons.mp N
  (refine hn9 ?_; clear hn9)
  refine Classical.byContradiction fun hn9 => ?_
  obtain ⟨r11, N⟩ := List.forall_mem_cons.mp N
  (refine hn9 ?_; clear hn9)
  refine Classical.byContradiction fun hn9 => ?_
  obtain ⟨r12, N⟩ := List.forall_mem_cons.mp N
  (refine hn9 ?_; clear hn9)
  refine Classical.byContradiction fun hn9 => ?_
  obtain ⟨r13, N⟩ := List.forall_mem_cons.mp N
  (refine hn9 ?_; clear hn9)
  refine ⟨[(D, tupObj [.ref l1, .int 1 k3] n1), (l1, lstObj [.ref D1] n2), (D1, tupObj [.str (Str.ofString "const") e1, .int 1 e2] n3), (D2, tupObj [.ref l2, .int 1 k2] n4), (l2, lstObj [.ref D3] n5), (D3, tupObj [.str (Str.ofString "varref") b1, .int 1 b2] n6), (D4, tupObj [.ref l3, .int 1 k1] n7), (l3, lstObj [.ref D5] n8), (D5, tupObj [.str (Str.ofString "const") a1, .int 0 a2] n9)], [.ref D4, .ref D2, .ref D], [([.const 0], 1), ([.varref], 1), ([.const 1], 1)], ?_, ⟨?_, ?_⟩, rfl, ?_, ?_⟩
  · show ∀ q ∈ (_ : List (Addr × Obj)), h.get? q.1 = some q.2 ∧ q.1 ≠ L ∧ h₀.get? q.1 = none
    exact (List.forall_mem_cons.mpr ⟨r0, (List.forall_mem_cons.mpr ⟨r10, (List.forall_mem_cons.mpr ⟨r11, (List.forall_mem_cons.mpr ⟨r12, (List.forall_mem_cons.mpr ⟨r13, (List.forall_mem_cons.mpr ⟨r1, (List.forall_mem_cons.mpr ⟨r2, (List.forall_mem_cons.mpr ⟨r3, (List.forall_mem_cons.mpr ⟨r4, (List.forall_mem_cons.mpr ⟨r5, (List.forall_mem_cons.mpr ⟨r6, (List.forall_mem_cons.mpr ⟨r7, (List.forall_mem_cons.mpr ⟨r8, (List.forall_mem_cons.mpr ⟨r9, (List.forall_mem_nil _)⟩)⟩)⟩)⟩)⟩)⟩)⟩)⟩)⟩)⟩)⟩)⟩)⟩)⟩)
  · exact .cons (pool_one (by k_mem) (by k_mem) (by k_mem)) (.cons (pool_one (by k_mem) (by k_mem) (by k_mem)) (.cons (pool_one (by k_mem) (by k_mem) (by k_mem)) .nil))
  · simp only [List.forall_mem_cons]
    refine ⟨⟨good_one (plain_const (by decide) (by decide)) rfl rfl rfl rfl, by simp, by simp⟩, ⟨good_one plain_varref rfl rfl rfl rfl, by simp, by simp⟩, ⟨good_one (plain_const (by decide) (by decide)) rfl rfl rfl rfl, by simp, by simp⟩, by simp⟩
  · exact List.forall_mem_cons.mpr ⟨x1, List.forall_mem_cons.mpr ⟨x2, List.forall_mem_cons.mpr ⟨x3, List.forall_mem_cons.mpr ⟨x4, List.forall_mem_cons.mpr ⟨x5, List.forall_mem_cons.mpr ⟨x6, List.forall_mem_cons.mpr ⟨x7, List.forall_mem_cons.mpr ⟨x8, List.forall_mem_cons.mpr ⟨x9, List.forall_mem_nil _⟩⟩⟩⟩⟩⟩⟩⟩⟩
  · exact List.forall_mem_cons.mpr ⟨y1, List.forall_mem_cons.mpr ⟨y2, List.forall_mem_cons.mpr ⟨y3, List.forall_mem_cons.mpr ⟨y4, List.forall_mem_cons.mpr ⟨y5, List.forall_mem_cons.mpr ⟨y6, List.forall_mem_cons.mpr ⟨y7, List.forall_mem_cons.mpr ⟨y8, List.forall_mem_cons.mpr ⟨y9, List.forall_mem_nil _⟩⟩⟩⟩⟩⟩⟩⟩⟩
noncomputable def zOf : Nat → Nat
  | 0 => 1
  | i + 1 => 3 * zOf i + 3
noncomputable def LawJ (l p cl c2 c1 : Addr) (oC o2 o1 : Obj) (i : Nat) (news' : List (Addr × Obj)) : Prop := ∃ pvs pn ca za t1 t2 qn imm parts, news' = lawNews l p cl c2 c1 (lstObj pvs pn) (potObj cl ca za t1 t2 qn) oC o2 o1 imm ∧ PoolOk i (zOf i) pvs parts imm ∧ parts.length = 3 + i ∧
  (∀ q ∈ imm, @Ne Nat q.1 l) ∧ (∀ q ∈ imm, @Ne Nat q.1 p) ∧ ca = 1 + 4 * (i : Int) ∧ 0 ≤ za ∧ za < 100000
theorem off_law {l p cl c2 c1 I : Addr} {oP oQ oC o2 o1 : Obj} {imm : List (Addr × Obj)} (off : ∀ q ∈ lawNews l p cl c2 c1 oP oQ oC o2 o1 imm, q.1 ≠ I) : (@Ne Nat l I ∧ @Ne Nat p I ∧ @Ne Nat cl I ∧ @Ne Nat c2 I ∧ @Ne Nat c1 I) ∧ ∀ q ∈ imm, @Ne Nat q.1 I :=
  ⟨⟨off _ (.head _), off _ (.tail _ (.head _)), off _ (.tail _ (.tail _ (.head _))), off _ (.tail _ (.tail _ (.tail _ (.head _)))), off _ (.tail _ (.tail _ (.tail _ (.tail _ (.head _)))))⟩, fun q hq => off q (.tail _ (.tail _ (.tail _ (.tail _ (.tail _ hq)))))⟩
theorem law_names {h₀ h : Heap} {L l p cl c2 c1 : Addr} {oP oQ oC o2 o1 : Obj} {imm : List (Addr × Obj)} (N : News h₀ L h (lawNews l p cl c2 c1 oP oQ oC o2 o1 imm)) (d2 : o2.data = .cell (some (.ref l))) (d1 : o1.data = .cell (some (.ref p))) (off : ∀ q ∈ imm, @Ne Nat q.1 l) (ne : (@Ne Nat l p ∧ @Ne Nat l cl ∧ @Ne Nat l c2 ∧ @Ne Nat l c1) ∧ @Ne Nat p cl ∧ @Ne Nat p c2 ∧ @Ne Nat p c1) :
    ∃ l' c2' c1' o2' o1', News h₀ L h (lawNews l' p cl c2' c1' oP oQ oC o2' o1' imm) ∧ o2'.data = .cell (some (.ref l')) ∧ o1'.data = .cell (some (.ref p)) ∧ c2' = c2 ∧ c1' = c1 ∧ (∀ q ∈ imm, @Ne Nat q.1 l') ∧ (@Ne Nat l' p ∧ @Ne Nat l' cl ∧ @Ne Nat l' c2' ∧ @Ne Nat l' c1') ∧ @Ne Nat p cl ∧ @Ne Nat p c2' ∧ @Ne Nat p c1' :=
  ⟨l, c2, c1, o2, o1, N, d2, d1, rfl, rfl, off, ne⟩
theorem lawUpd {pool pot cl c2 c1 : Addr} {oP oQ oC o2 o1 : Obj} {imm : List (Addr × Obj)} (ne : @Ne Nat pool pot ∧ @Ne Nat cl pot ∧ @Ne Nat c2 pot ∧ @Ne Nat c1 pot) (off : ∀ q ∈ imm, @Ne Nat q.1 pot) (o : Obj) : Upd pot oQ o (lawNews pool pot cl c2 c1 oP oQ oC o2 o1 imm) (lawNews pool pot cl c2 c1 oP o oC o2 o1 imm) :=
  .tail ne.1 (.head (List.forall_mem_cons.mpr ⟨ne.2.1, List.forall_mem_cons.mpr ⟨ne.2.2.1, List.forall_mem_cons.mpr ⟨ne.2.2.2, off⟩⟩⟩))
theorem ne_of_data {h₀ h : Heap} {L a b : Addr} {oa ob : Obj} {news : List (Addr × Obj)} (N : News h₀ L h news) (ha : (a, oa) ∈ news) (hb : (b, ob) ∈ news) (hd : oa.data ≠ ob.data) : @Ne Nat a b := fun e => by
  have h1 := (N _ ha).1
  have h2 := (N _ hb).1
  dsimp only at h1 h2
  rw [show a = b from e, h2] at h1
  exact hd (congrArg Obj.data (Option.some.inj h1)).symm
end Mine
end
section
open PySem PySem.W PyProof.Rows PySem.Calls
set_option maxRecDepth 100000
set_option maxHeartbeats 1000000
namespace Mine
open LCg in
/-- a comprehension by an invariant over the ledger and what is made so far -/
theorem compR_all {prog : Program} {w : World} {A : Around} {h₀ : Heap} {L : Addr} {m : Str → Option Value} {env : Env} {elt : Expr} {x : Str} {scope : Scope} {cl : List (Str × Addr)} {s : Shared} {S : List (Addr × Obj) → Prop} {P : Nat → Value → Prop} {Fin : List Value → List (Addr × Obj) → Prop} {news : List (Addr × Obj)} {n : Nat}
    (Inv : List (Addr × Obj) → List Value → Nat → Prop)
    (step : ∀ i ys news v I oI C oC D m₂ h tk (E' : Value → Shared → Prop), i < n → Inv news ys i → P i v → NsObj oC m₂ → m₂ x = some v → Fr h₀ L h m → News h₀ L h ((I, oI) :: (C, oC) :: (D, lst ys) :: news) → Off3 I C D news → ((@Ne Nat I C) ∧ (@Ne Nat I D) ∧ (@Ne Nat C D)) →
      wpAny (model prog w) A (eval elt (compEnvC scope cl C env)) (CompEnd h₀ L m { s with heap := h, toks := tk } I oI C oC D (lst ys) S (fun y news' => Inv news' (ys ++ [y]) (i + 1))) E' { s with heap := h, toks := tk })
    (fin : ∀ ys news, Inv news ys n → Fin ys news) (h0 : Inv news [] 0) : CompRest prog w A h₀ L m env elt x scope cl s S P Fin n 0 [] news := by
  have gen : ∀ (j i : Nat) (ys : List Value) (news : List (Addr × Obj)), i + j = n → Inv news ys i → CompRest prog w A h₀ L m env elt x scope cl s S P Fin j i ys news := by
    intro j
    induction j with
    | zero => intro i ys news e hi; exact CompRest.zero (fin ys news ((show i = n by omega) ▸ hi))
    | succ j ih =>
      intro i ys news e hi
      refine CompRest.succ fun v I oI C oC D m₂ h tk E' a1 a2 a3 a4 a5 a6 a7 => wpAny_mono (step i ys news v I oI C oC D m₂ h tk E' (by omega) hi a1 a2 a3 a4 a5 a6 a7) (fun y s₂ hy => ?_) fun _ _ q => q
      refine Classical.byContradiction fun hn9 => ?_
      obtain ⟨h', tk', news', b1, b2, b3, b4, b5, b6⟩ := hy
      (refine hn9 ?_; clear hn9)
      exact ⟨h', tk', news', b1, b2, b3, b4, b5, ih (i + 1) _ news' (by omega) b6⟩
  exact gen n 0 [] news (by omega) h0
theorem off3_law {A B C I l p cl c2 c1 : Addr} {oi oP oQ oC o2 o1 : Obj} {imm : List (Addr × Obj)} (off : LCg.Off3 A B C ((I, oi) :: lawNews l p cl c2 c1 oP oQ oC o2 o1 imm)) :
    ((@Ne Nat I A ∧ @Ne Nat I B ∧ @Ne Nat I C) ∧ (@Ne Nat l A ∧ @Ne Nat l B ∧ @Ne Nat l C) ∧ (@Ne Nat p A ∧ @Ne Nat p B ∧ @Ne Nat p C) ∧ (@Ne Nat cl A ∧ @Ne Nat cl B ∧ @Ne Nat cl C) ∧ (@Ne Nat c2 A ∧ @Ne Nat c2 B ∧ @Ne Nat c2 C) ∧ (@Ne Nat c1 A ∧ @Ne Nat c1 B ∧ @Ne Nat c1 C)) ∧ LCg.Off3 A B C imm :=
  ⟨⟨off.1, off.2.1, off.2.2.1, off.2.2.2.1, off.2.2.2.2.1, off.2.2.2.2.2.1⟩, off.2.2.2.2.2.2⟩
theorem off3_mk {A B C I l p cl c2 c1 : Addr} {oi oP oQ oC o2 o1 : Obj} {imm : List (Addr × Obj)} (a : (@Ne Nat I A ∧ @Ne Nat I B ∧ @Ne Nat I C) ∧ (@Ne Nat l A ∧ @Ne Nat l B ∧ @Ne Nat l C) ∧ (@Ne Nat p A ∧ @Ne Nat p B ∧ @Ne Nat p C) ∧ (@Ne Nat cl A ∧ @Ne Nat cl B ∧ @Ne Nat cl C) ∧ (@Ne Nat c2 A ∧ @Ne Nat c2 B ∧ @Ne Nat c2 C) ∧ (@Ne Nat c1 A ∧ @Ne Nat c1 B ∧ @Ne Nat c1 C)) (b : LCg.Off3 A B C imm) : LCg.Off3 A B C ((I, oi) :: lawNews l p cl c2 c1 oP oQ oC o2 o1 imm) :=
  ⟨a.1, a.2.1, a.2.2.1, a.2.2.2.1, a.2.2.2.2.1, a.2.2.2.2.2, b⟩
theorem lawUpd4 {A B C I pool pot cl c2 c1 : Addr} {oA oB oC' oi oP oQ oC o2 o1 : Obj} {imm : List (Addr × Obj)} (n4 : @Ne Nat A pot ∧ @Ne Nat B pot ∧ @Ne Nat C pot ∧ @Ne Nat I pot) (ne : @Ne Nat pool pot ∧ @Ne Nat cl pot ∧ @Ne Nat c2 pot ∧ @Ne Nat c1 pot) (off : ∀ q ∈ imm, @Ne Nat q.1 pot) (o : Obj) :
    Upd pot oQ o ((A, oA) :: (B, oB) :: (C, oC') :: (I, oi) :: lawNews pool pot cl c2 c1 oP oQ oC o2 o1 imm) ((A, oA) :: (B, oB) :: (C, oC') :: (I, oi) :: lawNews pool pot cl c2 c1 oP o oC o2 o1 imm) :=
  .tail n4.1 (.tail n4.2.1 (.tail n4.2.2.1 (.tail n4.2.2.2 (lawUpd ne off o))))
noncomputable def SomeJ (I l p cl c2 c1 : Addr) (oi oP oC o2 o1 : Obj) (imm : List (Addr × Obj)) (parts : List (List Op × Int)) (ca0 : Int) (news' : List (Addr × Obj)) (ys : List Value) (k : Nat) : Prop :=
  ∃ ca za t1 t2 qn os, news' = (I, oi) :: lawNews l p cl c2 c1 oP (potObj cl ca za t1 t2 qn) oC o2 o1 imm ∧ All2 (PoolAt (Hs Em imm)) ys os ∧ os.length = k ∧ (∀ x ∈ os, x ∈ parts) ∧ ca = ca0 + (k : Int) ∧ 0 ≤ za ∧ za < 100000
theorem lawUpd2 {A I pool pot cl c2 c1 : Addr} {oA oi oP oQ oC o2 o1 : Obj} {imm : List (Addr × Obj)} (n4 : @Ne Nat A pot ∧ @Ne Nat I pot) (ne : @Ne Nat pool pot ∧ @Ne Nat cl pot ∧ @Ne Nat c2 pot ∧ @Ne Nat c1 pot) (off : ∀ q ∈ imm, @Ne Nat q.1 pot) (o : Obj) :
    Upd pot oQ o ((A, oA) :: (I, oi) :: lawNews pool pot cl c2 c1 oP oQ oC o2 o1 imm) ((A, oA) :: (I, oi) :: lawNews pool pot cl c2 c1 oP o oC o2 o1 imm) := .tail n4.1 (.tail n4.2 (lawUpd ne off o))
theorem lawUpdP {I pool pot cl c2 c1 : Addr} {oi oP oP' oQ oC o2 o1 : Obj} {imm : List (Addr × Obj)} (n4 : @Ne Nat I pool) (ne : @Ne Nat pot pool ∧ @Ne Nat cl pool ∧ @Ne Nat c2 pool ∧ @Ne Nat c1 pool) (off : ∀ q ∈ imm, @Ne Nat q.1 pool) :
    Upd pool oP oP' ((I, oi) :: lawNews pool pot cl c2 c1 oP oQ oC o2 o1 imm) ((I, oi) :: lawNews pool pot cl c2 c1 oP' oQ oC o2 o1 imm) :=
  .tail n4 (.head (List.forall_mem_cons.mpr ⟨ne.1, List.forall_mem_cons.mpr ⟨ne.2.1, List.forall_mem_cons.mpr ⟨ne.2.2.1, List.forall_mem_cons.mpr ⟨ne.2.2.2, off⟩⟩⟩⟩))
theorem all2_three {α β : Type} {P : α → β → Prop} {ys : List α} {os : List β} (h : All2 P ys os) (e : os.length = 3) : ∃ y0 y1 y2 q0 q1 q2, ys = [y0, y1, y2] ∧ os = [q0, q1, q2] ∧ P y0 q0 ∧ P y1 q1 ∧ P y2 q2 := by
  cases h with
  | nil => simp at e
  | cons x0 h =>
    cases h with
    | nil => simp at e
    | cons x1 h =>
      cases h with
      | nil => simp at e
      | cons x2 h =>
        cases h with
        | nil => exact ⟨_, _, _, _, _, _, rfl, rfl, x0, x1, x2⟩
        | cons x3 h => simp at e
theorem zOf_le : ∀ i, i ≤ 3 → zOf i ≤ 66
  | 0, _ => by decide
  | 1, _ => by decide
  | 2, _ => by decide
  | 3, _ => by decide
  | n + 4, h => by omega
theorem zOf_le4 : ∀ i, i ≤ 4 → zOf i ≤ 201
  | 0, _ => by decide
  | 1, _ => by decide
  | 2, _ => by decide
  | 3, _ => by decide
  | 4, _ => by decide
  | n + 5, h => by omega
theorem PoolOk.grow {i : Nat} {pvs : List Value} {parts : List (List Op × Int)} {imm imm' : List (Addr × Obj)} {w : Int} {q0 q1 q2 : List Op × Int} {b : Value} (PO : PoolOk i (zOf i) pvs parts imm) (hs : ∀ p ∈ imm, p ∈ imm') (h0 : 0 ≤ w) (h1 : w < 11) (m0 : q0 ∈ parts) (m1 : q1 ∈ parts) (m2 : q2 ∈ parts)
    (hb : PoolAt (Hs Em imm') b (joinOf w q0 q1 q2)) : PoolOk (i + 1) (zOf (i + 1)) (pvs ++ [b]) (parts ++ [joinOf w q0 q1 q2]) imm' := by
  refine Classical.byContradiction fun hn9 => ?_
  obtain ⟨g0, z0, p0⟩ := PO.good _ m0
  (refine hn9 ?_; clear hn9)
  refine Classical.byContradiction fun hn9 => ?_
  obtain ⟨g1, z1, p1⟩ := PO.good _ m1
  (refine hn9 ?_; clear hn9)
  refine Classical.byContradiction fun hn9 => ?_
  obtain ⟨g2, z2, p2⟩ := PO.good _ m2
  (refine hn9 ?_; clear hn9)
  have hg := join_good h0 h1 g0 g1 g2
  refine ⟨(PO.mono hs).all.snoc hb, fun x hx => ?_⟩
  rcases List.mem_append.mp hx with hx | hx
  · refine Classical.byContradiction fun hn9 => ?_
    obtain ⟨g, z, p⟩ := PO.good _ hx
    (refine hn9 ?_; clear hn9)
    exact ⟨g.up (by omega), by show _ ≤ 3 * zOf i + 3; omega, p⟩
  · rw [List.mem_singleton.mp hx]
    refine ⟨hg, ?_, hg.1⟩
    have := join_length (o1 := q0) (o2 := q1) (o3 := q2) h0 h1 p2
    show _ ≤ 3 * zOf i + 3
    omega
theorem news_law {h₀ h : Heap} {L A I l p cl c2 c1 : Addr} {oA oi oP oQ oC o2 o1 : Obj} {imm new : List (Addr × Obj)} (N : News h₀ L h ((A, oA) :: (I, oi) :: lawNews l p cl c2 c1 oP oQ oC o2 o1 imm)) (M : News h₀ L h new) : News h₀ L h ((I, oi) :: lawNews l p cl c2 c1 oP oQ oC o2 o1 (new ++ imm)) := by
  intro q hq
  simp only [lawNews, List.mem_cons] at hq
  rcases hq with h | h | h | h | h | h | h
  · exact N q (by rw [h]; exact .tail _ (.head _))
  · exact N q (by rw [h]; exact .tail _ (.tail _ (.head _)))
  · exact N q (by rw [h]; exact .tail _ (.tail _ (.tail _ (.head _))))
  · exact N q (by rw [h]; exact .tail _ (.tail _ (.tail _ (.tail _ (.head _)))))
  · exact N q (by rw [h]; exact .tail _ (.tail _ (.tail _ (.tail _ (.tail _ (.head _))))))
  · exact N q (by rw [h]; exact .tail _ (.tail _ (.tail _ (.tail _ (.tail _ (.tail _ (.head _)))))))
  · rcases List.mem_append.mp h with h | h
    · exact M q h
    · exact N q (.tail _ (.tail _ (.tail _ (.tail _ (.tail _ (.tail _ (.tail _ h)))))))
theorem law_mem {A I l p cl c2 c1 : Addr} {oA oi oP oQ oC o2 o1 : Obj} {imm : List (Addr × Obj)} : ∀ q ∈ imm, q ∈ (A, oA) :: (I, oi) :: lawNews l p cl c2 c1 oP oQ oC o2 o1 imm := fun _ h => .tail _ (.tail _ (.tail _ (.tail _ (.tail _ (.tail _ (.tail _ h))))))
theorem off_law_new {h : Heap} {new imm : List (Addr × Obj)} {a : Addr} {o : Obj} (hf : ∀ q ∈ new, h.get? q.1 = none) (ha : h.get? a = some o) (hi : ∀ q ∈ imm, @Ne Nat q.1 a) : ∀ q ∈ new ++ imm, @Ne Nat q.1 a := off_new hf ha hi
theorem off_law_mk {l p cl c2 c1 I : Addr} {oP oQ oC o2 o1 : Obj} {imm : List (Addr × Obj)} (a : @Ne Nat l I ∧ @Ne Nat p I ∧ @Ne Nat cl I ∧ @Ne Nat c2 I ∧ @Ne Nat c1 I) (b : ∀ q ∈ imm, @Ne Nat q.1 I) : ∀ q ∈ lawNews l p cl c2 c1 oP oQ oC o2 o1 imm, q.1 ≠ I :=
  List.forall_mem_cons.mpr ⟨a.1, List.forall_mem_cons.mpr ⟨a.2.1, List.forall_mem_cons.mpr ⟨a.2.2.1, List.forall_mem_cons.mpr ⟨a.2.2.2.1, List.forall_mem_cons.mpr ⟨a.2.2.2.2, b⟩⟩⟩⟩⟩
end Mine
end
section
open PySem PySem.W PyProof.Rows PySem.Calls
set_option maxRecDepth 100000
set_option maxHeartbeats 1000000
namespace Mine
theorem law_code {h₀ h : Heap} {L D c l9 r l p cl c2 c1 : Addr} {oD o9 oP oQ oC o2 o1 : Obj} {imm : List (Addr × Obj)} {va : List Value} {k n : Nat} {t1 t2 : Tok} {xo : List Op}
    (N : News h₀ L h ((D, oD) :: (c, lstObj (va ++ [.ref r]) k) :: (l9, o9) :: (r, tupObj [.str (Str.ofString "return") t1, .int (-1) t2] n) :: lawNews l p cl c2 c1 oP oQ oC o2 o1 imm)) (hA : All2 (InstrAt (Hs Em imm)) va xo) :
    ∃ imm', News h₀ L h imm' ∧ LinesAt (Hs Em imm') c (xo ++ [Op.ret]) := by
  refine ⟨_, N, va ++ [.ref r], ⟨k, .inr (.tail _ (.head _))⟩, All2.snoc (hA.mono fun _ _ q => q.mono (hs_more fun q hq => ?_)) ⟨r, t1, t2, rfl, n, .inr (.tail _ (.tail _ (.tail _ (.head _))))⟩⟩
  exact .tail _ (.tail _ (.tail _ (.tail _ (.tail _ (.tail _ (.tail _ (.tail _ (.tail _ hq))))))))
noncomputable abbrev ownNews (kl x d : Addr) (oK oX oD : Obj) (imm : List (Addr × Obj)) : List (Addr × Obj) := (kl, oK) :: (x, oX) :: (d, oD) :: imm
theorem own_code {h₀ h : Heap} {L kl x d c : Addr} {imm : List (Addr × Obj)} {c1 c2 : Tok} {kn : Nat} {h1 h2 h3 h4 h5 h6 dep : Int} {k1 k2 k3 k4 k5 k6 tt td : Tok} {code : List Op}
    (N : News h₀ L h (ownNews kl x d (lstObj [.int 1 c1, .int 2 c2] kn) (instObj 219 d) (ownDict h1 h2 h3 h4 h5 h6 k1 k2 k3 k4 k5 k6 tt td c kl dep) imm)) (hl : LinesAt (Hs Em imm) c code) : CodeAt h x code dep := by
  have hs : Sub (Hs Em imm) (hSt h) := fun a o e => e.elim (fun q => q.elim) fun q => (N _ (.tail _ (.tail _ (.tail _ q)))).1
  refine Classical.byContradiction fun hn9 => ?_
  obtain ⟨cvs, ⟨cn, hc⟩, hA⟩ := hl
  (refine hn9 ?_; clear hn9)
  exact ⟨c, kl, cn, kn, cvs, c1, c2, ⟨d, h1, h2, h3, h4, h5, h6, k1, k2, k3, k4, k5, k6, tt, td, (N _ (.tail _ (.head _))).1, (N _ (.tail _ (.tail _ (.head _)))).1⟩, hs _ _ hc, hA.mono fun _ _ q => q.mono hs, (N _ (.head _)).1⟩
theorem own_more {h₀ h : Heap} {L kl x d : Addr} {oK oX oD : Obj} {imm new : List (Addr × Obj)} (N : News h₀ L h (ownNews kl x d oK oX oD imm)) (M : News h₀ L h new) : News h₀ L h (ownNews kl x d oK oX oD (new ++ imm)) := by
  intro q hq
  simp only [ownNews, List.mem_cons] at hq
  rcases hq with h | h | h | h
  · exact N q (by rw [h]; exact .head _)
  · exact N q (by rw [h]; exact .tail _ (.head _))
  · exact N q (by rw [h]; exact .tail _ (.tail _ (.head _)))
  · rcases List.mem_append.mp h with h | h
    · exact M q h
    · exact N q (.tail _ (.tail _ (.tail _ h)))
theorem ownUpd {kl x d : Addr} {oK oX oD oD' : Obj} {imm : List (Addr × Obj)} (n1 : @Ne Nat kl d) (n2 : @Ne Nat x d) (off : ∀ q ∈ imm, @Ne Nat q.1 d) : Upd d oD oD' (ownNews kl x d oK oX oD imm) (ownNews kl x d oK oX oD' imm) := .tail n1 (.tail n2 (.head off))
section
variable {w : World} {s : Shared} {mg mb : Str → Option Value} {dp un : Nat} {fr : Option (List Env)} {gd : Option (List Code)} {R : Result → Shared → Prop}
theorem call_fill {h₀ : Heap} {L : Addr} {m : Str → Option Value} {imm : List (Addr × Obj)} {E : Value → Shared → Prop} {Q : Value → Shared → Prop} {kl x d cl kl0 cl' kl' : Addr} {oK : Obj} {dep dep' : Int} {h1 h2 h3 h4 h5 h6 : Int} {k1 k2 k3 k4 k5 k6 tt td td' : Tok} (F : Fr h₀ L s.heap m)
    (N : News h₀ L s.heap (ownNews kl x d oK (instObj 219 d) (ownDict h1 h2 h3 h4 h5 h6 k1 k2 k3 k4 k5 k6 tt td cl kl0 dep) imm)) (X : (kk.heap_1 w.params).In h₀) (T : TopRead vw (looseW vw [Str.ofString "ROWS"]) mg mb h₀) (hD : dp + 2 ≤ 400) (nkd : @Ne Nat kl d) (nxd : @Ne Nat x d) (off : ∀ q ∈ imm, @Ne Nat q.1 d)
    (hQ : ∀ h' tk h1 h2 h3 h4 h5 h6 k1 k2 k3 k4 k5 k6 td, Fr h₀ L h' m → News h₀ L h' (ownNews kl x d oK (instObj 219 d) (ownDict h1 h2 h3 h4 h5 h6 k1 k2 k3 k4 k5 k6 tt td cl' kl' dep') imm) → Q .none { s with heap := h', toks := tk }) :
    wpAny (model PySem.Challenge.rw_rg0136_01.row.toRowW.prog w) (Ar dp un fr gd) (call (.ref 216) [.ref x, .ref cl', .ref kl', .int dep' td']) Q E s :=
  call_filled (fun o => ownNews kl x d oK (instObj 219 d) o imm) F N X T hD (.tail _ (.head _)) (fun _ => ownUpd nkd nxd off) nxd hQ
theorem call_depthL {h₀ : Heap} {L : Addr} {m : Str → Option Value} {news : List (Addr × Obj)} {E : Value → Shared → Prop} {Q : Value → Shared → Prop} {f : Addr} {code : List Op} {TT : Nat → St} {dep g : Int} (F : Fr h₀ L s.heap m) (N : News h₀ L s.heap news) (X : (kk.heap_1 w.params).In h₀) (T : TopRead vw (looseW vw [Str.ofString "ROWS"]) mg mb h₀) (hD : dp + 10 ≤ 400) (hU : un + 120 ≤ 5000)
    (hc : CodeAt s.heap f code dep) (W : WellMade code TT) (hg : gdTo code TT code.length = g) (hQ : ∀ h' tk t, Fr h₀ L h' m → News h₀ L h' news → Q (.int g t) { s with heap := h', toks := tk }) :
    wpAny (model PySem.Challenge.rw_rg0136_01.row.toRowW.prog w) (Ar dp un fr gd) (call (.ref 333) [.ref f]) Q E s := by
  subst hg
  exact wpAny_call (depth_ok (X.keeps F.keep) (T.keeps F.keep) hD hU hc W fun h' tk t hk => hQ h' tk t (F.keeps hk) (N.grown hk))
theorem call_errorL {h₀ : Heap} {L : Addr} {m : Str → Option Value} {news : List (Addr × Obj)} {E : Value → Shared → Prop} {Q : Value → Shared → Prop} {f : Addr} {code : List Op} {TT : Nat → St} {dep : Int} (F : Fr h₀ L s.heap m) (N : News h₀ L s.heap news) (X : (kk.heap_1 w.params).In h₀) (T : TopRead vw (looseW vw [Str.ofString "ROWS"]) mg mb h₀) (hD : dp + 12 ≤ 400) (hU : un + 140 ≤ 5000)
    (hc : CodeAt s.heap f code dep) (W : WellMade code TT) (hr : ∀ o ∈ code, o.InRange code.length) (hg : gdTo code TT code.length ≤ dep)
    (h : ∀ h' tk, Fr h₀ L h' m → News h₀ L h' news → Q .none { s with heap := h', toks := tk }) : wpAny (model PySem.Challenge.rw_rg0136_01.row.toRowW.prog w) (Ar dp un fr gd) (call (.ref 340) [.ref f]) Q E s :=
  wpAny_call (error_ok (X.keeps F.keep) (T.keeps F.keep) hD hU hc W hr (fun _ h' tk hk => h h' tk (F.keeps hk) (N.grown hk)) fun hx => absurd hg (by omega))
theorem call_errorL2 {h₀ : Heap} {L : Addr} {m : Str → Option Value} {news : List (Addr × Obj)} {E : Value → Shared → Prop} {Q : Value → Shared → Prop} {f : Addr} {code : List Op} {TT : Nat → St} {dep : Int} (F : Fr h₀ L s.heap m) (N : News h₀ L s.heap news) (X : (kk.heap_1 w.params).In h₀) (T : TopRead vw (looseW vw [Str.ofString "ROWS"]) mg mb h₀) (hD : dp + 12 ≤ 400) (hU : un + 140 ≤ 5000)
    (hc : CodeAt s.heap f code dep) (W : WellMade code TT) (hr : ∀ o ∈ code, o.InRange code.length) (hg : dep < gdTo code TT code.length)
    (h : ∀ h' tk r n t1 t2, Fr h₀ L h' m → News h₀ L h' ((r, tupObj [.int 0 t1, .str (Str.ofString "depth") t2] n) :: news) → Q (.ref r) { s with heap := h', toks := tk }) : wpAny (model PySem.Challenge.rw_rg0136_01.row.toRowW.prog w) (Ar dp un fr gd) (call (.ref 340) [.ref f]) Q E s := by
  refine wpAny_call (error_ok (X.keeps F.keep) (T.keeps F.keep) hD hU hc W hr (fun hx => absurd hg (by omega)) fun _ h' tk r n t1 t2 hk hn hr => h h' tk r n t1 t2 (F.keeps hk) ?_)
  intro p hp
  rcases List.mem_cons.mp hp with rfl | hp
  · exact news_new F hn hr
  · exact N.grown hk p hp
theorem call_standingsL {h₀ : Heap} {L : Addr} {m : Str → Option Value} {news : List (Addr × Obj)} {E : Value → Shared → Prop} {Q : Value → Shared → Prop} {f : Addr} {code : List Op} {TT : Nat → St} {dep : Int} (F : Fr h₀ L s.heap m) (N : News h₀ L s.heap news) (X : (kk.heap_1 w.params).In h₀) (T : TopRead vw (looseW vw [Str.ofString "ROWS"]) mg mb h₀) (hD : dp + 8 ≤ 400) (hU : un + 100 ≤ 5000)
    (hc : CodeAt s.heap f code dep) (W : WellMade code TT)
    (hR : ∀ h' tk r new, s.heap.StaysIn h' → Fr h₀ L h' m → News h₀ L h' news → News h₀ L h' new → (∀ p ∈ new, s.heap.get? p.1 = none) → StandsAt (Hs Em new) r ((List.range code.length).map TT) → Q (.ref r) { s with heap := h', toks := tk }) :
    wpAny (model PySem.Challenge.rw_rg0136_01.row.toRowW.prog w) (Ar dp un fr gd) (call (.ref 326) [.ref f]) Q E s := by
  refine Classical.byContradiction fun hn9 => ?_
  obtain ⟨cl, kl, cn, kn, cvs, c1, c2, hf, hcl, hcode, hkl⟩ := hc
  (refine hn9 ?_; clear hn9)
  refine wpAny_call (standings_ok (X.keeps F.keep) (T.keeps F.keep) hD hU hf hcl hcode W fun h' tk r hk hr => ?_)
  refine Classical.byContradiction fun hn9 => ?_
  obtain ⟨new, n1, n2, n3⟩ := grown (σ := Em) (imm := []) F hk
  (refine hn9 ?_; clear hn9)
  rw [List.append_nil] at n3
  exact hR h' tk r new hk (F.keeps hk) (N.grown hk) n1 n2 (hr.mono fun a o e => n3 a o (e.elim (fun q => q.elim) .inr))
end
end Mine
end
section
open PySem PySem.W PyProof.Rows PySem.Calls
set_option maxRecDepth 100000
set_option maxHeartbeats 1000000
namespace Mine
open LCg LCt in
/-- a comprehension whose test nothing passes -/
theorem compT_none {prog : Program} {w : World} {A : Around} {h₀ : Heap} {L : Addr} {m : Str → Option Value} {env : Env} {ct elt : Expr} {x : Str} {scope : Scope} {cl : List (Str × Addr)} {s : Shared} {S : List (Addr × Obj) → Prop} {P : Nat → Value → Prop} {Fin : List Value → List (Addr × Obj) → Prop} {news : List (Addr × Obj)} {n : Nat}
    (step : ∀ i v I oI C oC D m₂ h tk (E' : Value → Shared → Prop), P i v → NsObj oC m₂ → m₂ x = some v → Fr h₀ L h m → News h₀ L h ((I, oI) :: (C, oC) :: (D, lst []) :: news) → Off3 I C D news → ((@Ne Nat I C) ∧ (@Ne Nat I D) ∧ (@Ne Nat C D)) →
      wpAny (model prog w) A (isTrue ct (compEnvC scope cl C env) (eval ct (compEnvC scope cl C env))) (fun ok s' => if ok = true then False else CompEnd h₀ L m { s with heap := h, toks := tk } I oI C oC D (lst []) S (fun _ news' => news' = news) Value.none s') E' { s with heap := h, toks := tk })
    (fin : Fin [] news) : CompRestT prog w A h₀ L m env ct elt x scope cl s S P Fin n 0 [] news := by
  have gen : ∀ (j i : Nat), CompRestT prog w A h₀ L m env ct elt x scope cl s S P Fin j i [] news := by
    intro j
    induction j with
    | zero => intro i; exact CompRestT.zero fin
    | succ j ih =>
      intro i
      refine CompRestT.succ fun v I oI C oC D m₂ h tk E' a1 a2 a3 a4 a5 a6 a7 => wpAny_mono (step i v I oI C oC D m₂ h tk E' a1 a2 a3 a4 a5 a6 a7) (fun ok s₂ hy => ?_) fun _ _ q => q
      cases ok with
      | true => rw [if_pos rfl] at hy; exact hy.elim
      | false =>
        rw [if_neg (by decide)] at hy ⊢
        refine Classical.byContradiction fun hn9 => ?_
        obtain ⟨h', tk', news', b1, b2, b3, b4, b5, b6⟩ := hy
        (refine hn9 ?_; clear hn9)
        exact ⟨h', tk', news', b1, b2, b3, b4, b5, b6 ▸ ih (i + 1)⟩
  exact gen n 0
theorem stands_ends {σ : Store} {kvs : List Value} {TT : Nat → St} {n : Nat} (h : All2 (fun v st => ∃ c, v = Value.ref c ∧ StandAt σ c st) kvs ((List.range (n + 1)).map TT)) :
    (∃ c0, kvs[0]? = some (.ref c0) ∧ StandAt σ c0 (TT 0)) ∧ ∃ p c1, kvs = p ++ [.ref c1] ∧ StandAt σ c1 (TT n) := by
  constructor
  · refine Classical.byContradiction fun hn9 => ?_
    obtain ⟨a, ha, c, rfl, hc⟩ := h.get (i := 0) (b := TT 0) (by simp)
    (refine hn9 ?_; clear hn9)
    exact ⟨c, ha, hc⟩
  · rw [List.range_succ, List.map_append] at h
    rcases h.last with ⟨_, h2⟩ | ⟨p, y, q, z, h1, h2, _, c, rfl, hc⟩
    · simp at h2
    · refine Classical.byContradiction fun hn9 => ?_
      obtain ⟨_, h3⟩ := List.append_inj' h2 rfl
      (refine hn9 ?_; clear hn9)
      simp at h3
      exact ⟨p, c, h1, by rw [h3]; exact hc⟩
theorem own_pick {h₀ h : Heap} {L kl x d : Addr} {oK oX oD : Obj} {ledger imm : List (Addr × Obj)} (N : News h₀ L h ledger) (a : (kl, oK) ∈ ledger) (b : (x, oX) ∈ ledger) (c : (d, oD) ∈ ledger) (e : ∀ p ∈ imm, p ∈ ledger) : News h₀ L h (ownNews kl x d oK oX oD imm) := by
  intro q hq
  simp only [ownNews, List.mem_cons] at hq
  rcases hq with rfl | rfl | rfl | hq
  · exact N _ a
  · exact N _ b
  · exact N _ c
  · exact N _ (e q hq)
theorem two_tolds {prog : Program} {w : World} {A : Around} {E : Value → Shared → Prop} {Q : Value → Shared → Prop} {s : Shared} {h₀ : Heap} {L l1 l2 D D1 D2 D3 : Addr} {v1 v2 : Value} {n1 n2 n3 n4 n5 n6 : Nat} {t1 t2 t3 t4 : Tok} {rest imm : List (Addr × Obj)}
    (N : News h₀ L s.heap ((l2, lstObj [.ref D2, .ref D] n1) :: (D, tupObj [.int 1 t1, .int 0 t2, .ref D1] n2) :: (D1, tupObj [] n3) :: (D2, tupObj [.int 0 t3, .int 0 t4, .ref D3] n4) :: (D3, tupObj [] n5) :: (l1, lstObj [v1, v2] n6) :: rest))
    (h1 : ToldAt (Hs Em imm) v1 ⟨0, 0, []⟩) (h2 : ToldAt (Hs Em imm) v2 ⟨1, 0, []⟩) (hs : ∀ p ∈ imm, p ∈ rest) (hu : A.units + 64 < cLine) (h : Q (.bool false) s) : wpAny (model prog w) A (compareOp .NotEq (.ref l1) (.ref l2)) Q E s := by
  have hsub : Sub (Hs Em imm) (hSt s.heap) := fun a o e => e.elim (fun q => q.elim) fun q => (N _ (.tail _ (.tail _ (.tail _ (.tail _ (.tail _ (.tail _ (hs _ q)))))))).1
  have a1 := (N _ (.head _)).1
  have a2 := (N _ (.tail _ (.head _))).1
  have a3 := (N _ (.tail _ (.tail _ (.head _)))).1
  have a4 := (N _ (.tail _ (.tail _ (.tail _ (.head _))))).1
  have a5 := (N _ (.tail _ (.tail _ (.tail _ (.tail _ (.head _)))))).1
  have a6 := (N _ (.tail _ (.tail _ (.tail _ (.tail _ (.tail _ (.head _))))))).1
  have r1 := told_reads (h1.mono hsub)
  have r2 := told_reads (h2.mono hsub)
  have q1 : Reads s.heap (.ref D2) (toldD ⟨0, 0, []⟩) [] := reads_tuple_at a4 rfl rfl (readsAll_cons_val (.int _ _) (readsAll_cons_val (.int _ _) (readsAll_cons_val (reads_tuple_at a5 rfl rfl .nil) .nil)))
  have q2 : Reads s.heap (.ref D) (toldD ⟨1, 0, []⟩) [] := reads_tuple_at a2 rfl rfl (readsAll_cons_val (.int _ _) (readsAll_cons_val (.int _ _) (readsAll_cons_val (reads_tuple_at a3 rfl rfl .nil) .nil)))
  refine ne_dataH (reads_list_at a6 rfl rfl (readsAll_cons_val r1 (readsAll_cons_val r2 .nil))) (reads_list_at a1 rfl rfl (readsAll_cons_val q1 (readsAll_cons_val q2 .nil))) (by decide) (by decide) hu ?_
  have e : PyData.eqv (.list [toldD ⟨0, 0, []⟩, toldD ⟨1, 0, []⟩]) (.list [toldD ⟨0, 0, []⟩, toldD ⟨1, 0, []⟩]) = true := by simp [toldD, PyData.eqv, PyData.eqvAll]
  rw [e]
  exact h
theorem code_depth {prog : Program} {w : World} {A : Around} {E : Value → Shared → Prop} {Q : Value → Shared → Prop} {s : Shared} {h₀ : Heap} {L r D : Addr} {n1 n2 : Nat} {t1 t2 t3 t4 : Tok} {news : List (Addr × Obj)} (N : News h₀ L s.heap news)
    (h1 : (r, tupObj [.int 0 t1, .str (Str.ofString "depth") t2] n1) ∈ news) (h2 : (D, tupObj [.int 0 t3, .str (Str.ofString "depth") t4] n2) ∈ news) (hu : A.units + 64 < cLine) (h : Q (.bool true) s) : wpAny (model prog w) A (compareOp .Eq (.ref r) (.ref D)) Q E s := by
  have q1 : Reads s.heap (.ref r) (.tuple [.int 0, .str (Str.ofString "depth")]) [] := reads_tuple_at (N _ h1).1 rfl rfl (readsAll_cons_val (.int _ _) (readsAll_cons_val (.str _ _) .nil))
  have q2 : Reads s.heap (.ref D) (.tuple [.int 0, .str (Str.ofString "depth")]) [] := reads_tuple_at (N _ h2).1 rfl rfl (readsAll_cons_val (.int _ _) (readsAll_cons_val (.str _ _) .nil))
  refine eq_dataH q1 q2 (by decide +kernel) (by decide +kernel) hu ?_
  have e : PyData.eqv (.tuple [.int 0, .str (Str.ofString "depth")]) (.tuple [.int 0, .str (Str.ofString "depth")]) = true := by simp [PyData.eqv, PyData.eqvAll]
  rw [e]
  exact h
end Mine
end
local macro_rules | `(tactic| walk_at "su") => `(tactic| ((intro p9 hp9; (repeat' (refine List.mem_cons_of_mem _ ?_)); assumption)))
local macro_rules | `(tactic| walk_at "lu") => `(tactic| (exact Mine.isList_hs (by k_asm) (by k_asm) (by assumption) (by assumption) (by walk_at "su")))
local macro_rules | `(tactic| walk_at "iu") => `(tactic| (exact Mine.isTup_hs (by k_asm) (by k_asm) (by assumption) (by assumption) (by walk_at "su")))
section
open PySem PySem.W PyProof.Rows PySem.Calls
set_option maxRecDepth 100000
set_option maxHeartbeats 4000000
namespace Mine
local macro_rules | `(tactic| walk_at "call ref") => `(tactic| (with_reducible refine hold ?_))
local macro_rules | `(tactic| walk_at "exec For") => `(tactic| (with_reducible refine hold ?_))
local macro_rules | `(tactic| walk_at "CompSrc") => `(tactic| (with_reducible refine hold ?_))
local macro_rules | `(tactic| walk_at "CompSrcT") => `(tactic| (with_reducible refine hold ?_))
local macro_rules | `(tactic| walk_at "eval ListComp") => `(tactic| (with_reducible refine hold ?_))
local macro_rules | `(tactic| walk_at "compareOp NotEq ref ref") => `(tactic| (with_reducible refine hold ?_))
local macro_rules | `(tactic| walk_at "compareOp Eq ref ref") => `(tactic| (with_reducible refine hold ?_))
local macro_rules | `(tactic| walk_at "subscriptTail Name Constant ref int") => `(tactic| (k_here; k_dflt (refine' item_L ?qa (by decide) (by decide) ?qb ?_; (case qa => walk_at "lu"); (case qb => assumption))))
local macro_rules | `(tactic| walk_at "truthy ref") => `(tactic| (k_here; k_dflt (refine' truthy_K0 ?k1 ?k2 ?k3 ?k4 ?k5 ?_; (case k1 => k_asm); (case k2 => k_asm); (case k3 => exact instAt_hs (by k_asm) (by k_asm) (by assumption) (by assumption) (by assumption) (by walk_at "su")); (case k4 => k_is); (case k5 => k_is))))
local macro_rules | `(tactic| k_in) => `(tactic| exact Frag.In.keeps (by k_asm) (Fr.keep (by k_asm)))
local macro_rules | `(tactic| walk_at "callWith ref") => `(tactic| (k_here; k_dflt (first
  | refine' callWith_K ?k1 ?k2 ?_; (case k1 => k_asm); (case k2 => k_is)
  | refine' callWith_K0 ?k1 ?k2 ?_; (case k1 => k_in); (case k2 => k_is))))
local macro_rules | `(tactic| walk_at "getMethod ref") => `(tactic| (k_here; k_dflt (refine' method_inst ?k1 ?k2 ?k3 ?k4 ?k5 ?k6 ?k7 ?_; (case k1 => k_asm); (case k2 => k_asm); (case k3 => k_inst); (case k4 => k_is); (case k5 => k_is); (case k6 => k_is); (case k7 => k_get))))
local macro_rules | `(tactic| k_inst) => `(tactic| exact instAt_get (Fr.keep (by k_asm)) (by assumption) (by assumption))
local macro_rules | `(tactic| k_inst) => `(tactic| exact instAt_hs (by k_asm) (by k_asm) (by assumption) (by assumption) (by assumption) (by walk_at "st"))
local macro_rules | `(tactic| walk_at "subscriptTail Subscript Name UnaryOp Constant ref int") => `(tactic| (k_here; k_dflt (refine' item_T ?t ?a ?b ?c ?d ?_; (case t => walk_at "iu"); walk_at "cd")))
local macro_rules | `(tactic| walk_at "binaryOp Add ref ref") => `(tactic| (with_reducible refine hold ?_))
local macro_rules | `(tactic| walk_at "subscriptTail Name UnaryOp ref int") => `(tactic| (k_here; k_dflt (refine' last_L ?l ?_; (case l => first | walk_at "nl" | walk_at "lu"))))
local macro_rules | `(tactic| walk_at "Exists") => `(tactic| (with_reducible refine hold ?_))
local macro_rules | `(tactic| walk_at "call builtin:list.append") => `(tactic| (with_reducible refine hold ?_))
local macro_rules | `(tactic| walk_at "CompEnd") => `(tactic| (with_reducible refine hold ?_))
local macro_rules | `(tactic| walk_at "subscriptTail Name Call ref int") => `(tactic| (with_reducible refine hold ?_))
local macro_rules | `(tactic| walk_at "exec Assign cons ListComp") => `(tactic| (with_reducible refine hold ?_))
local macro_rules | `(tactic| walk_at "exec For Name Call cons nil") => `(tactic| (with_reducible refine hold ?_))
local macro_rules | `(tactic| walk_at "call builtin:list.pop") => `(tactic| (tbr_iter (1, "list.pop"); k_dflt (refine' pop_L ?F ?N ?U ?z ?_; walk_at "FN"; (case U => k_upd); walk_at "zm"); walk_at "aN"))
local macro_rules | `(tactic| walk_at "compareOp NotEq ref ref") => `(tactic| (tbr_iter (3, CmpOp.NotEq); k_dflt (refine' neNilV ?l ?e ?u ?_; walk_at "el"; walk_at "u"; (first | rw [snoc_empty] | rw [nil_empty] | skip))))
local macro_rules | `(tactic| walk_at "call builtin:len") => `(tactic| (tbr_iter (1, "len"); k_dflt (refine' len_V ?l ?z ?_; (case l => first | walk_at "nl" | exact Fr.lst (by k_asm) (by assumption)); (case z => first | assumption | walk_at "ml"); intro t9 tk9)))
local macro_rules | `(tactic| walk_at "binaryOp Mult ref int") => `(tactic| (k_here; k_dflt (refine' mul_one ?F ?N ?l ?a ?b ?_; walk_at "FN"; (case l => k_mem); (case a => omega); (case b => omega); intro h' l' F' N' l1; (try k_lt l1))))
local macro_rules | `(tactic| walk_at "assign Tuple") => `(tactic| (k_here; (with_reducible show wpAny _ _ (assign (Expr.Tuple _ _ _) _ (Value.ref _)) _ _ _); k_dflt (refine' unpackN_ ?k1 ?k2 ?k3 ?k4 ?k5 ?k6 ?_; (case k1 => k_asm); (case k2 => k_asm); (case k3 => first | assumption | walk_at "it"); (case k4 => exact rfl); (case k5 => exact rfl); (case k6 => exact rfl); k_whole; intro h' F' N'; (try k_sweep))))
local macro_rules | `(tactic| walk_at "eval Name") => `(tactic| (k_here; (with_reducible show wpAny _ _ (eval _ (compEnvC _ _ _ _)) _ _ _); k_dflt (refine' nameC_B ?F ?X ?T ?e ?v ?n ?_ rfl rfl rfl rfl; (case F => k_asm); walk_at "XT"; (case e => k_is); (case v => boot_by_name); (case n => decide))))
local macro_rules | `(tactic| walk_at "eval Name") => `(tactic| (k_here; (with_reducible show wpAny _ _ (eval _ (compEnvC _ _ _ _)) _ _ _); k_dflt (refine' nameC_K ?F ?X ?T ?e ?_ rfl rfl rfl; (case F => k_asm); walk_at "XT"; (case e => k_is))))
local macro_rules | `(tactic| walk_at "storeName") => `(tactic| (k_here; k_dflt (refine' storeX_C ?F ?N ?c ?U ?d ?_ ?qa ?qb; (case qa => rfl); (case qb => rfl); walk_at "FN"; (case c => rfl); (case U => k_updF); (case d => k_asm)); intro h' o' F' N' d'; (try dsimp only at N'); (try simp only [List.cons_append, List.nil_append] at N')))
local macro_rules | `(tactic| k_qdec) => `(tactic| decide +kernel)
theorem holds : PySem.Challenge.rw_rg0136_01.Holds := by
  w_on
  refine holds_law ws fun said => ?_
  refine holds_open (r := PySem.Challenge.rw_rg0136_01.row) (q := vw) (loose := [Str.ofString "ROWS"]) (Xt := Xt) (XP := XL vw []) (Yf := Hook.obs (kHook kk.heap_1 asl asl_ok)) (Ya := Hook.val (kHook kk.heap_1 asl asl_ok)) (YP := Hook.says (kHook kk.heap_1 asl asl_ok)) (N := 5730) left2 (Hook.of (kHook kk.heap_1 asl asl_ok)) (Hook.keeps (kHook kk.heap_1 asl asl_ok)) (fun s e => xl_of s (Bool.and_eq_true_iff.mp e).1) XL.keeps (by rfl) (by rfl) (by rfl) (fun s e => recFacts_of (Bool.and_eq_true_iff.mp e).2) (by rfl) (by first | assumption | decide +kernel) (by decide +kernel) ⟨rfl, rfl, rfl, rfl, rfl, by decide +kernel⟩ ?hw ?hc
  case hw => w_witness2
  (try (rename _ = true => sd9; clear sd9))
  k_go0
  all_goals try k_fold
  rename Shared => S1
  rename Frag.In _ _ => KX
  rename PyProof.Rows.Top _ _ _ _ _ _ => T0
  have TX := topRead_of T0
  rename Flt.MathXP _ _ _ => z1
  clear z1
  rename LooseAre _ _ _ => z1
  clear z1
  rename Glob _ _ _ _ _ _ _ _ => z1
  clear z1
  rename Tables _ _ _ _ => z1
  clear z1
  rename TopE _ _ _ _ => z1
  clear z1
  rename TopW _ _ _ => z1
  clear z1
  k_steps
  unfold Hold
  k_dflt (refine' call_pot ?F ?N KX TX ?D ?U ?s ?i ?z ?l ?_; (case F => k_asm); (case N => k_asm); (case D => decide); (case U => decide); (case s => assumption); (case i => assumption); (case z => omega); (case l => assumption))
  intro h1 tk1 p cl cvs cs t1 z t2 n1 n2 F1 N1 ne1 off1 off2 hcs hcz hc0 hz0 hz1
  have u1 : @Ne Nat _ _ := off1 _ (List.Mem.head _)
  have u2 : @Ne Nat _ _ := off1 _ (List.Mem.tail _ (List.Mem.head _))
  have u3 : @Ne Nat _ _ := off2 _ (List.Mem.head _)
  have u4 : @Ne Nat _ _ := off2 _ (List.Mem.tail _ (List.Mem.head _))
  have u5 : @Ne Nat _ _ := ne1
  clear off1 off2
  dsimp only at u1 u2 u3 u4
  k_steps
  unfold Hold
  refine wpAny_For ?_ (by intro _; rfl)
  k_steps
  unfold Hold
  rename News _ _ _ _ => N9
  refine Classical.byContradiction fun hn9 => ?_
  obtain ⟨imm, pvs, parts, N3, PO, hp3, off1, off2⟩ := law_start N9 (by omega)
  (refine hn9 ?_; clear hn9)
  refine Classical.byContradiction fun hn9 => ?_
  obtain ⟨l, c2, c1, o2, o1, N3, d2, d1, ec2, ec1, off1, ⟨w1, w2, w3, w4⟩, w5, w6, w7⟩ := law_names N3 (by assumption) (by assumption) off1 (by omega)
  (refine hn9 ?_; clear hn9)
  clear N9
  k_dflt (refine' call_dip (nw := fun o => lawNews _ _ _ _ _ _ o _ _ _ _) ?F N3 KX TX ?D ?U ?c ?n hcs ?z hc0 ?h0 ?h1 ?h2 hz1 ?h3 ?h4 ?_; (case F => k_asm); (case D => decide); (case U => intro o9; refine lawUpd ?_ off2 o9; exact ⟨(by first | assumption | exact Ne.symm (by assumption)), (by first | assumption | exact Ne.symm (by assumption)), (by first | assumption | exact Ne.symm (by assumption)), (by first | assumption | exact Ne.symm (by assumption))⟩); (case c => k_mem); (case n => exact ne1); (case z => omega); (case h0 => omega); (case h1 => omega); (case h2 => omega); (case h3 => omega); (case h4 => omega))
  intro h2 tk2 r tr z2 u1' u2' n3 F2 N2 hz2 hz3 hr0 hr1
  k_steps
  have n4 : (((1 + r).toNat : Nat) : Int) = 1 + r := by omega
  rename IsRange _ _ _ _ _ _ _ _ => hR9
  k_dflt (refine' range_for (n := (1 + r).toNat) rfl rfl rfl hR9 n4.symm ?z ?F ?N (fun i _ news' => LawJ l p cl c2 c1 (lstObj cvs n2) o2 o1 i news') ?h0 ?step ?done; (case z => omega); (case F => k_asm); (case N => k_asm))
  case h0 => exact ⟨pvs, 0, 0 + 1, z2, u1', u2', n3, imm, parts, rfl, PO, hp3, off1, off2, rfl, hz2, hz3⟩
  case step =>
    intro i tk6 mX news1 h6 tk7 I oi hi hq9 off F6 N6
    refine Classical.byContradiction fun hn9 => ?_
    obtain ⟨pvs, pn, ca, za, t1, t2, qn, imm, parts, rfl, PO, hpl, off1, off2, hca, hza, hzb⟩ := hq9
    (refine hn9 ?_; clear hn9)
    refine Classical.byContradiction fun hn9 => ?_
    obtain ⟨⟨v1, v2, v3, v4, v5⟩, offI⟩ := off_law off
    (refine hn9 ?_; clear hn9)
    subst ec1 ec2
    clear off
    k_steps
    unfold Hold
    k_dflt (refine LCg.Assign_ListComp_U (F₀ := by k_asm) (by rfl) (by with_unfolding_all rfl) (by with_unfolding_all rfl) (by decide) (by rfl) (by decide) (by rfl) (by rfl) (by rfl) ?_)
    k_steps
    unfold Hold
    have hpv : pvs.length = 3 + i := by rw [PO.all.length]; exact hpl
    have hi4 : i < 4 := by omega
    rename IsRange _ _ _ _ _ _ _ _ => hR8
    k_dflt (refine LCg.CompSrc.range (n := 3) (by rfl) (by k_asm) (by k_asm) hR8 (by decide) (by rfl) (by size_fits) ?_)
    intro g8
    refine compR_all (SomeJ I l p cl (S1.heap.objs.size + 1 + 1) (S1.heap.objs.size + 1) oi (lstObj pvs pn) (lstObj cvs n2) o2 o1 imm parts ca) ?stepC ?finC ?h0C
    case h0C => exact ⟨ca, za, t1, t2, qn, [], rfl, .nil, rfl, by simp, by simp, hza, hzb⟩
    case stepC =>
      intro k ys news v I8 oI8 C8 oC8 D8 m8 h8 tk8 E8 hk hq14 hv hC hx F8 N8 off8 hq21
      refine Classical.byContradiction fun hn9 => ?_
      obtain ⟨ca8, za8, t8, t8', qn8, os, rfl, hys, hos, hin, hca8, hz8, hz8'⟩ := hq14
      obtain ⟨e81, e82, e83⟩ := hq21
      (refine hn9 ?_; clear hn9)
      refine Classical.byContradiction fun hn9 => ?_
      obtain ⟨b8, offB⟩ := off3_law off8
      (refine hn9 ?_; clear hn9)
      refine Classical.byContradiction fun hn9 => ?_
      obtain ⟨⟨b1, b2, b3⟩, ⟨b4, b5, b6⟩, ⟨b7, b8, b9⟩, ⟨b10, b11, b12⟩, ⟨b13, b14, b15⟩, b16, b17, b18⟩ := b8
      (refine hn9 ?_; clear hn9)
      clear off8
      k_steps
      unfold Hold
      have U9 := fun o => lawUpd4 (oA := oI8) (oB := oC8) (oC' := LCg.lst ys) (oi := oi) (oP := lstObj pvs pn) (oQ := potObj cl ca8 za8 t8 t8' qn8) (oC := lstObj cvs n2) (o2 := o2) (o1 := o1) (A := I8) (B := C8) (C := D8) (I := I) (pool := l) (pot := p) (cl := cl) (c2 := S1.heap.objs.size + 1 + 1) (c1 := S1.heap.objs.size + 1) ⟨(by first | assumption | exact Ne.symm (by assumption)), (by first | assumption | exact Ne.symm (by assumption)), (by first | assumption | exact Ne.symm (by assumption)), (by first | assumption | exact Ne.symm (by assumption))⟩ ⟨(by first | assumption | exact Ne.symm (by assumption)), (by first | assumption | exact Ne.symm (by assumption)), (by first | assumption | exact Ne.symm (by assumption)), (by first | assumption | exact Ne.symm (by assumption))⟩ off2 o
      k_dflt (refine' call_dip (nw := _) ?F ?N KX TX ?D U9 ?c ?n hcs ?z hc0 ?h0 ?h1 hz8 hz8' ?h3 ?h4 ?_; (case F => k_asm); (case N => k_asm); (case D => decide); (case c => exact List.Mem.tail _ (List.Mem.tail _ (List.Mem.tail _ (List.Mem.tail _ (List.Mem.tail _ (List.Mem.tail _ (List.Mem.head _))))))); (case n => exact ne1); (case z => omega); (case h0 => omega); (case h1 => omega); (case h3 => omega); (case h4 => omega))
      intro h9 tk9 r9 tr9 z9 a9' b9' n9 F9 N9 hz9 hz9' hr9 hr9'
      refine Classical.byContradiction fun hn9 => ?_
      obtain ⟨y9, hy9⟩ : ∃ y, pvs[r9.toNat]? = some y := ⟨_, List.getElem?_eq_getElem (by omega)⟩
      (refine hn9 ?_; clear hn9)
      refine Classical.byContradiction fun hn9 => ?_
      obtain ⟨o9, ho9, hyo⟩ := PO.all.get2 hy9
      (refine hn9 ?_; clear hn9)
      k_steps
      unfold Hold
      k_dflt (refine' item_L ?l hr9 (by omega) hy9 ?_; (case l => exact News.isList (by k_asm) (by k_mem)))
      k_steps
      unfold Hold
      exact LCg.CompEnd.intro (by k_asm) (by k_asm : News S1.heap _ h9 _) ((I, oi) :: lawNews l p cl _ _ (lstObj pvs pn) (potObj cl (ca8 + 1) z9 a9' b9' n9) (lstObj cvs n2) o2 o1 imm) (fun _ hp => hp) (off3_mk ⟨⟨b1, b2, b3⟩, ⟨b4, b5, b6⟩, ⟨b7, b8, b9⟩, ⟨b10, b11, b12⟩, ⟨b13, b14, b15⟩, b16, b17, b18⟩ offB) trivial
        ⟨ca8 + 1, z9, a9', b9', n9, os ++ [o9], rfl, hys.snoc hyo, by rw [List.length_append, hos]; rfl, fun x hx => (List.mem_append.mp hx).elim (hin x) fun h => List.mem_singleton.mp h ▸ List.mem_of_getElem? ho9, by omega, hz9, hz9'⟩
    case finC =>
      intro ys news hq2
      refine Classical.byContradiction fun hn9 => ?_
      obtain ⟨ca8, za8, t8, t8', qn8, os, rfl, hys, hos, hin, hca8, hz8, hz8'⟩ := hq2
      (refine hn9 ?_; clear hn9)
      intro D7 h7 tk7' F7 N7 off7
      k_steps
      unfold Hold
      refine Classical.byContradiction fun hn9 => ?_
      obtain ⟨y0, y1, y2, q0, q1, q2, rfl, rfl, hP0, hP1, hP2⟩ := all2_three hys hos
      (refine hn9 ?_; clear hn9)
      refine Classical.byContradiction fun hn9 => ?_
      obtain ⟨x71, x72, x73, x74, x75, x76, x77⟩ := off7
      (refine hn9 ?_; clear hn9)
      have m0 := hin q0 (.head _)
      have m1 := hin q1 (.tail _ (.head _))
      have m2 := hin q2 (.tail _ (.tail _ (.head _)))
      clear hys hos hin
      have U7 := fun o => lawUpd2 (oA := LCg.lst [y0, y1, y2]) (oi := oi) (oP := lstObj pvs pn) (oQ := potObj cl ca8 za8 t8 t8' qn8) (oC := lstObj cvs n2) (o2 := o2) (o1 := o1) (A := D7) (I := I) (pool := l) (pot := p) (cl := cl) (c2 := S1.heap.objs.size + 1 + 1) (c1 := S1.heap.objs.size + 1) ⟨(by first | assumption | exact Ne.symm (by assumption)), (by first | assumption | exact Ne.symm (by assumption))⟩ ⟨(by first | assumption | exact Ne.symm (by assumption)), (by first | assumption | exact Ne.symm (by assumption)), (by first | assumption | exact Ne.symm (by assumption)), (by first | assumption | exact Ne.symm (by assumption))⟩ off2 o
      k_dflt (refine' call_dip (nw := _) ?F ?N KX TX ?D U7 ?c ?n hcs ?z hc0 ?h0 ?h1 hz8 hz8' ?h3 ?h4 ?_; (case F => k_asm); (case N => k_asm); (case D => decide); (case c => exact List.Mem.tail _ (List.Mem.tail _ (List.Mem.tail _ (List.Mem.tail _ (List.Mem.head _))))); (case n => exact ne1); (case z => omega); (case h0 => omega); (case h1 => omega); (case h3 => omega); (case h4 => omega))
      clear U7
      intro h9 tk9 r9 tr9 z9 a9' b9' n9 F9 N9 hz9 hz9' hr9 hr9'
      (try dsimp only [LCg.lst, List.length_cons, List.length_nil] at N9)
      k_steps
      unfold Hold
      refine Classical.byContradiction fun hn9 => ?_
      obtain ⟨ta, _, _, _, rfl, _⟩ := id hP0
      (refine hn9 ?_; clear hn9)
      refine Classical.byContradiction fun hn9 => ?_
      obtain ⟨tb, _, _, _, rfl, _⟩ := id hP1
      (refine hn9 ?_; clear hn9)
      refine Classical.byContradiction fun hn9 => ?_
      obtain ⟨tc, _, _, _, rfl, _⟩ := id hP2
      (refine hn9 ?_; clear hn9)
      have zz := zOf_le i (by omega)
      have G0 := PO.good _ m0
      have G1 := PO.good _ m1
      have G2 := PO.good _ m2
      k_dflt (refine' call_joined (imm := imm) (o1 := q0) (o2 := q1) (o3 := q2) ?F ?N KX TX ?m hr9 hr9' ?D ?U hP0 hP1 hP2 ?z1 ?z2 ?z3 G2.2.2 ?_; (case F => k_asm); (case N => k_asm); (case m => exact law_mem); (case D => decide); (case U => decide); (case z1 => omega); (case z2 => omega); (case z3 => omega))
      intro h10 tk10 b10 new10 hk10 F10 N10 M10 hf10 hb10
      refine Classical.byContradiction fun hn9 => ?_
      obtain ⟨td, _, _, _, rfl, _⟩ := id hb10
      (refine hn9 ?_; clear hn9)
      (try dsimp only at hf10)
      have offl := off_law_new (a := l) hf10 (News.get N9 (List.Mem.tail _ (List.Mem.tail _ (List.Mem.head _)))) off1
      have offp := off_law_new (a := p) hf10 (News.get N9 (List.Mem.tail _ (List.Mem.tail _ (List.Mem.tail _ (List.Mem.head _))))) off2
      have offi := off_law_new (a := I) hf10 (News.get N9 (List.Mem.tail _ (List.Mem.head _))) offI
      have N11 := news_law N10 M10
      have hsub : ∀ q ∈ imm, q ∈ new10 ++ imm := fun q hq => List.mem_append_right _ hq
      have PO1 := PO.grow hsub hr9 hr9' m0 m1 m2 hb10
      have hpl1 : (parts ++ [joinOf r9 q0 q1 q2]).length = 3 + (i + 1) := by rw [List.length_append, List.length_singleton]; omega
      clear hf10 hk10 M10 N10 hsub
      generalize new10 ++ imm = imm2 at *
      (try dsimp only)
      k_steps
      unfold Hold
      k_dflt (refine' append_L (us := pvs) (n := pn) (x := .ref td) (news' := (I, oi) :: lawNews l p cl (S1.heap.objs.size + 1 + 1) (S1.heap.objs.size + 1) (lstObj (pvs ++ [.ref td]) (pn + 1)) (potObj cl (ca8 + 1) z9 a9' b9' n9) (lstObj cvs n2) o2 o1 imm2) ?F ?N ?U ?z ?_; (case F => k_asm); (case N => exact N11); (case U => exact lawUpdP (by first | assumption | exact Ne.symm (by assumption)) ⟨(by first | assumption | exact Ne.symm (by assumption)), (by first | assumption | exact Ne.symm (by assumption)), (by first | assumption | exact Ne.symm (by assumption)), (by first | assumption | exact Ne.symm (by assumption))⟩ offl); (case z => rw [sizeLine_eq]; omega))
      intro h12 F12 N12
      (try dsimp only)
      k_steps
      unfold Hold
      exact ⟨_, _, _, _, rfl, F12, N12, off_law_mk ⟨v1, v2, v3, v4, v5⟩ offi, pvs ++ [.ref td], pn + 1, ca8 + 1, z9, a9', b9', n9, imm2, _, rfl, PO1, hpl1, offl, offp, by omega, hz9, hz9'⟩
  case done =>
    intro h6 tk7 mX news1 F6 N6 hq6
    refine Classical.byContradiction fun hn9 => ?_
    obtain ⟨pvs, pn, ca, za, t1, t2, qn, imm, parts, rfl, PO, hpl, off1, off2, hca, hza, hzb⟩ := hq6
    (refine hn9 ?_; clear hn9)
    subst ec1 ec2
    obtain ⟨hbad, _⟩ | ⟨pvs', y, parts', x, rfl, rfl, hpp, hy⟩ := PO.all.last
    · subst hbad
      have hbad := PO.all.length
      simp at hbad
      omega
    have hx := PO.good x (List.mem_append_right _ (List.mem_singleton_self _))
    refine Classical.byContradiction fun hn9 => ?_
    obtain ⟨xo, xd⟩ := x
    (refine hn9 ?_; clear hn9)
    refine Classical.byContradiction fun hn9 => ?_
    obtain ⟨ty, ay, ky, ny, rfl, hty, hly⟩ := hy
    (refine hn9 ?_; clear hn9)
    dsimp only at hx hty hly
    have hTy : Tup (Hs Em imm) ty [.ref ay, .int xd ky] := ⟨ny, hty⟩
    have hem : Sub Em (hSt S1.heap) := fun _ _ e => e.elim
    k_steps
    unfold Hold
    refine Classical.byContradiction fun hn9 => ?_
    obtain ⟨va, hva, hvA⟩ := hly
    (refine hn9 ?_; clear hn9)
    have hvl : va.length ≤ 201 := by
      rw [hvA.length]
      have h1 := hx.2.1
      have h2 : zOf (1 + r).toNat ≤ 201 := zOf_le4 _ (by omega)
      omega
    k_dflt (refine' add_lists ?F ?N ?qa ?qb ?_ ?z; (case F => k_asm); (case N => k_asm); (case qa => exact isList_hs (by k_asm) (by k_asm) hem hva (by (intro p9 hp9; (repeat' (refine List.mem_cons_of_mem _ ?_)); assumption))); (case qb => exact News.isList (by k_asm) (by k_mem)); (case z => rw [sizeLine_eq]; simp only [List.length_cons, List.length_nil]; omega))
    intro h5 F5 N5
    (try dsimp only)
    k_steps
    unfold Hold
    rename News _ _ _ _ => N7
    refine Classical.byContradiction fun hn9 => ?_
    obtain ⟨imm3, N8, hlc⟩ := law_code N7 hvA
    (refine hn9 ?_; clear hn9)
    clear N7
    k_dflt (refine' call_own ?F N8 KX TX ?D ?_; (case F => k_asm); (case D => decide))
    intro h9 tk9 x d l1' l2' e1 e2 e3 e4 e5 e6 k1 k2 k3 k4 k5 k6 td F9 N9 nxd offx offd
    have offx : ∀ q ∈ imm3, @Ne Nat q.1 x := offx
    have offd : ∀ q ∈ imm3, @Ne Nat q.1 d := offd
    k_steps
    unfold Hold
    rename Addr => kl
    rename News _ _ _ _ => N10
    have lkl : d < kl := And.left (And.right (by assumption : x < kl ∧ d < kl ∧ AllLt kl imm3))
    have nkd : @Ne Nat kl d := Nat.ne_of_gt lkl
    k_dflt (refine' call_fill ?F N10 KX TX ?D nkd nxd offd ?_; (case F => k_asm); (case D => decide))
    intro h11 tk11 e1 e2 e3 e4 e5 e6 k1 k2 k3 k4 k5 k6 td F11 N11
    refine Classical.byContradiction fun hn9 => ?_
    obtain ⟨TT, WM, hgd, hrng, tt0, tt1, hd1⟩ := good_end hx.1 (by omega) (by rw [← hvA.length]; omega)
    (refine hn9 ?_; clear hn9)
    have hcode := own_code N11 hlc
    (try dsimp only)
    k_steps
    unfold Hold
    k_dflt (refine' call_depthL ?F ?N KX TX ?D ?U ?c WM hgd ?_; (case F => k_asm); (case N => k_asm); (case D => decide); (case U => decide); (case c => first | exact hcode | exact hcode.keeps (by assumption)))
    intro h12 tk12 t12 F12 N12
    have hcode := own_code N12 hlc
    (try dsimp only)
    k_steps
    unfold Hold
    k_dflt (refine' call_errorL ?F ?N KX TX ?D ?U ?c WM hrng ?g ?_; (case F => k_asm); (case N => k_asm); (case D => decide); (case U => decide); (case c => exact hcode); (case g => exact Int.le_of_eq hgd))
    intro h13 tk13 F13 N13
    have hcode := own_code N13 hlc
    (try dsimp only)
    k_steps
    unfold Hold
    k_dflt (refine' call_standingsL ?F ?N KX TX ?D ?U ?c WM ?_; (case F => k_asm); (case N => k_asm); (case D => decide); (case U => decide); (case c => exact hcode))
    intro h14 tk14 rr new14 hk14 F14 N14 M14 hf14 hr14
    have N15 := own_more N14 M14
    have offd4 : ∀ q ∈ new14 ++ imm3, @Ne Nat q.1 d := off_new hf14 (News.get N13 (List.Mem.tail _ (List.Mem.tail _ (List.Mem.head _)))) offd
    have offx4 : ∀ q ∈ new14 ++ imm3, @Ne Nat q.1 x := off_new hf14 (News.get N13 (List.Mem.tail _ (List.Mem.head _))) offx
    have hlc4 := hlc.mono (hs_right (σ := Em) (new := new14))
    have hr14 := hr14.mono (hs_more (σ := Em) (imm := new14) (imm' := new14 ++ imm3) fun q hq => List.mem_append_left _ hq)
    clear hk14 hf14 N14 M14
    generalize new14 ++ imm3 = imm4 at *
    refine Classical.byContradiction fun hn9 => ?_
    obtain ⟨fl, htr, kvs, ⟨fn, hfl⟩, hkvs⟩ := hr14
    (refine hn9 ?_; clear hn9)
    refine Classical.byContradiction fun hn9 => ?_
    obtain ⟨⟨s0, hs0, hsA⟩, kvp, s9, rfl, hsB⟩ := stands_ends (n := xo.length) (by rw [List.length_append, List.length_singleton] at hkvs; exact hkvs)
    (refine hn9 ?_; clear hn9)
    rw [tt0] at hsA
    rw [tt1] at hsB
    have hLfl : Lst (Hs Em imm4) fl (kvp ++ [.ref s9]) := ⟨fn, hfl⟩
    (try dsimp only)
    k_steps
    unfold Hold
    k_dflt (refine LCt.ListComp_T (F₀ := by k_asm) (by with_unfolding_all rfl) (by decide) (by rfl) (by decide) (by rfl) ?_)
    k_steps
    unfold Hold
    have hfl : (fl, lstObj (kvp ++ [.ref s9]) fn) ∈ imm4 := hfl.elim (fun q => q.elim) id
    have hkl : (kvp ++ [Value.ref s9]).length ≤ 1000 := by
      rw [hkvs.length]
      have := WM.small
      simpa using this
    k_dflt (refine LCt.CompSrcT.ledger (by rfl) (by k_asm) (by k_asm) (List.Mem.tail _ (List.Mem.tail _ (List.Mem.tail _ hfl))) (by rw [List.size_toArray, sizeLine_eq]; omega) ?_)
    intro g8
    refine compT_none ?stepT ?finT
    case stepT =>
      intro i v I8 oI8 C8 oC8 D8 m8 h8 tk8 E8 hv hC hxv F8 N8 off8 ne8
      refine Classical.byContradiction fun hn9 => ?_
      obtain ⟨st8, hst8, c8, rfl, hcs⟩ := hkvs.get2 (by simpa using hv)
      (refine hn9 ?_; clear hn9)
      refine Classical.byContradiction fun hn9 => ?_
      obtain ⟨dd8, ll8, q1, q2, q3, r1, r2, r3, rv, rb, hb1, hb2, hb3⟩ := id hcs
      (refine hn9 ?_; clear hn9)
      k_steps
      unfold Hold
      exact LCg.CompEnd.intro F8 N8 _ (fun _ hp => hp) off8 (Or.inr ⟨_, List.Mem.tail _ (List.Mem.tail _ (List.Mem.tail _ hfl)), rfl, _, rfl⟩) rfl
    case finT =>
      intro D7 h7 tk7' F7 N7 off7
      (try dsimp only [LCg.lst, List.length_cons, List.length_nil] at N7)
      k_steps
      unfold Hold
      k_dflt (refine' neNilV (us := []) ?qa ?qb ?qc ?_; (case qa => exact News.isList (by k_asm) (by k_mem)); (case qb => exact News.isList (by k_asm) (by k_mem)); (case qc => (simp only [units_deeper]; decide)))
      rw [nil_empty]
      have hs0' : (kvp ++ [Value.ref s9])[(0 : Int).toNat]? = some (.ref s0) := hs0
      refine Classical.byContradiction fun hn9 => ?_
      obtain ⟨d1', l1', q1, q2, q3, r1, r2, r3, rv, rb, ha1, ha2, ha3⟩ := id hsA
      (refine hn9 ?_; clear hn9)
      k_steps
      unfold Hold
      (try dsimp only)
      rename News _ _ _ _ => N20
      have N21 : News S1.heap _ _ (ownNews kl x d _ _ _ imm4) := news_sub N20 fun q hq => List.Mem.tail _ (List.Mem.tail _ hq)
      k_dflt (refine' call_told (imm := imm4) ?qa N21 hem KX TX ?qd hsA ?qm ?qz ?_; (case qa => k_asm); (case qd => decide); (case qm => exact fun q hq => List.Mem.tail _ (List.Mem.tail _ (List.Mem.tail _ hq))); (case qz => exact Nat.zero_le _))
      intro h22 tk22 v22 new22 hk22 F22 M22 hf22 ht22
      have N22 := own_more (N21.grown hk22) M22
      have offd5 : ∀ q ∈ new22 ++ imm4, @Ne Nat q.1 d := off_new hf22 (News.get N21 (List.Mem.tail _ (List.Mem.tail _ (List.Mem.head _)))) offd4
      have hlc5 := hlc4.mono (hs_right (σ := Em) (new := new22))
      have hLfl5 := hLfl.mono (hs_right (σ := Em) (new := new22))
      have hsB5 := hsB.mono (hs_right (σ := Em) (new := new22))
      clear hk22 M22 hf22 N20 N21
      generalize new22 ++ imm4 = imm5 at *
      refine Classical.byContradiction fun hn9 => ?_
      obtain ⟨d2', l2', q1', q2', q3', r1', r2', r3', rv', rb', ha1', ha2', ha3'⟩ := id hsB5
      (refine hn9 ?_; clear hn9)
      (try dsimp only)
      k_steps
      unfold Hold
      (try dsimp only)
      k_dflt (refine' call_told (imm := imm5) ?qa N22 hem KX TX ?qd hsB5 ?qm ?qz ?_; (case qa => k_asm); (case qd => decide); (case qm => exact fun q hq => List.Mem.tail _ (List.Mem.tail _ (List.Mem.tail _ hq))); (case qz => exact Nat.zero_le _))
      intro h24 tk24 v24 new24 hk24 F24 M24 hf24 ht24
      have N24 := own_more (N22.grown hk24) M24
      have offd6 : ∀ q ∈ new24 ++ imm5, @Ne Nat q.1 d := off_new hf24 (News.get N22 (List.Mem.tail _ (List.Mem.tail _ (List.Mem.head _)))) offd5
      have hlc6 := hlc5.mono (hs_right (σ := Em) (new := new24))
      have ht22 := ht22.mono (hs_right (σ := Em) (new := new24))
      clear hk24 M24 hf24
      generalize new24 ++ imm5 = imm6 at *
      (try dsimp only)
      k_steps
      unfold Hold
      k_dflt (refine' two_tolds (imm := imm6) ?qa ht22 ht24 ?qb ?qc ?_; (case qa => k_asm); (case qb => exact fun q hq => List.Mem.tail _ (List.Mem.tail _ (List.Mem.tail _ hq))); (case qc => (simp only [units_deeper]; decide)))
      k_steps
      unfold Hold
      rename Addr => kl2
      rename News _ _ _ _ => N25
      have N26 := own_pick (kl := kl2) (x := x) (d := d) (imm := imm6) N25 (List.Mem.head _) (by k_mem) (by k_mem) (by (intro p9 hp9; (repeat' (refine List.mem_cons_of_mem _ ?_)); assumption))
      have nk2 : @Ne Nat kl2 d := ne_of_data N26 (List.Mem.head _) (List.Mem.tail _ (List.Mem.tail _ (List.Mem.head _))) (fun h => nomatch h)
      k_dflt (refine' call_fill ?F N26 KX TX ?D nk2 nxd offd6 ?_; (case F => k_asm); (case D => decide))
      intro h27 tk27 e1 e2 e3 e4 e5 e6 k1 k2 k3 k4 k5 k6 td F27 N27
      have hcode := own_code N27 hlc6
      (try dsimp only)
      k_steps
      unfold Hold
      k_dflt (refine' call_errorL2 ?F ?N KX TX ?D ?U ?c WM hrng ?g ?_; (case F => k_asm); (case N => k_asm); (case D => decide); (case U => decide); (case c => exact hcode); (case g => rw [hgd]; omega))
      intro h28 tk28 r28 n28 t28 t28' F28 N28
      (try dsimp only)
      k_steps
      unfold Hold
      k_dflt (refine' code_depth ?qa ?qb ?qc ?qd ?_; (case qa => k_asm); (case qb => k_mem); (case qc => k_mem); (case qd => (simp only [units_deeper]; decide)))
      k_steps
end Mine
end
set_option maxHeartbeats 4000000 in
theorem PySem.Challenge.cw_rg0136_01_holds : PySem.Challenge.rw_rg0136_01.Holds :=
  Mine.holds
