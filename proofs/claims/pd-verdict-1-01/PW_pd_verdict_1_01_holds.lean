import PyProof.Rows.All
import Wide.All
import OpenK.AllK
import Wide.FinOn
import KE.KTryOn
import KE.LcTurns
import KE.KData
import PyProof.StrLawsTight
import PyProof.Rows.CatFin
import PyProof.Rows.StrClose5
import PyProof.StrLawsIn
import PySem.Challenge.RW_pd_verdict_1_01
set_option Elab.async false

section
namespace Mine
open PySem
/-- the digits' value, from the left, the start being a -/
def digVal : List Nat → Int → Option Int
  | [], a => some a
  | c :: r, a => if 48 ≤ c ∧ c ≤ 57 then digVal r (a * 10 + (c : Int) - 48) else none
/-- what number_of_word makes of a word: its int, or none where it raises -/
def numOf (w : Str) : Option Int :=
  match w.cps.toList with
  | [] => none
  | c :: r => if c = 45 then (if r = [] then none else (digVal r 0).map (fun i => -i)) else digVal (c :: r) 0
/-- the comprehension -/
def nums : List Str → Option (List Int)
  | [] => some []
  | w :: r => match numOf w, nums r with
    | some i, some l => some (i :: l)
    | _, _ => none
def okLit (n i : Int) : Bool := decide (i ≠ 0 ∧ -n ≤ i ∧ i ≤ n)
def lawful (n : Int) (l : List Int) : Bool := l.all (okLit n)
/-- what clause_of_line makes of its words -/
def readW (ws : List Str) (n : Int) : Option (List Int) :=
  match nums ws with
  | none => none
  | some l => if l.getLast? = some 0 ∧ lawful n l.dropLast = true then some l.dropLast else none
def okOpt (n : Int) : Option Int → Bool
  | none => false
  | some i => okLit n i
/-- what the law's own due makes of the worths -/
def due (os : List (Option Int)) (n : Int) : Option (List Int) :=
  if os.getLast? = some (some 0) ∧ os.dropLast.all (okOpt n) = true then some (os.dropLast.filterMap fun o => o) else none
theorem nums_map : ∀ (ws : List Str), nums ws = if (ws.map numOf).all Option.isSome = true then some ((ws.map numOf).filterMap fun o => o) else none
  | [] => rfl
  | w :: r => by
    have ih := nums_map r
    unfold nums
    rw [ih]
    cases h : numOf w with
    | none => simp [h]
    | some i =>
      by_cases q : (r.map numOf).all Option.isSome = true
      · rw [if_pos q, if_pos (by simp only [List.map_cons, List.all_cons, h, Option.isSome_some, Bool.true_and]; exact q)]
        simp [h]
      · rw [if_neg q, if_neg (by simp only [List.map_cons, List.all_cons, h, Option.isSome_some, Bool.true_and]; exact q)]
theorem all_some_of_ok {n : Int} : ∀ {os : List (Option Int)}, os.all (okOpt n) = true → os.all Option.isSome = true
  | [], _ => rfl
  | o :: r, h => by
    simp only [List.all_cons, Bool.and_eq_true] at h ⊢
    refine ⟨?_, all_some_of_ok h.2⟩
    cases o with
    | none => simp [okOpt] at h
    | some i => rfl
theorem all_snoc (os : List (Option Int)) (p : Option Int → Bool) (o : Option Int) : (os ++ [o]).all p = (os.all p && p o) := by simp
theorem lawful_filterMap {n : Int} : ∀ {os : List (Option Int)}, os.all Option.isSome = true → lawful n (os.filterMap fun o => o) = os.all (okOpt n)
  | [], _ => rfl
  | none :: r, h => by simp at h
  | some i :: r, h => by
    simp only [List.all_cons, Option.isSome_some, Bool.true_and] at h
    have ih := lawful_filterMap (n := n) h
    unfold lawful at ih ⊢
    simp only [List.filterMap_cons, List.all_cons, okOpt, ih]
/-- the two readings agree -/
theorem read_due (ws : List Str) (n : Int) : readW ws n = due (ws.map numOf) n := by
  unfold readW
  rw [nums_map]
  generalize ws.map numOf = os
  rcases List.eq_nil_or_concat os with rfl | ⟨init, o, rfl⟩
  · simp [due]
  · simp only [List.concat_eq_append]
    unfold due
    rw [List.getLast?_append, List.dropLast_concat]
    simp only [List.getLast?_singleton, Option.some_or, Option.some.injEq]
    rw [all_snoc]
    cases o with
    | none => simp
    | some i =>
      by_cases q : init.all Option.isSome = true
      · have e : (init ++ [some i]).filterMap (fun o => o) = init.filterMap (fun o => o) ++ [i] := by simp [List.filterMap_append]
        rw [if_pos (by simp [q]), e]
        simp only [List.getLast?_append, List.getLast?_singleton, Option.some_or, Option.some.injEq, List.dropLast_concat, lawful_filterMap q]
      · rw [if_neg (by simp [q])]
        have q' : ¬ (init.all (okOpt n) = true) := fun h => q (all_some_of_ok h)
        simp [q']
/-- what is due is lawful, and stays within n -/
theorem due_lits {os : List (Option Int)} {n : Int} {l : List Int} (h : due os n = some l) : os.getLast? = some (some 0) ∧ os.dropLast = l.map some ∧ lawful n l = true := by
  unfold due at h
  split at h
  · rename_i q
    obtain ⟨q1, q2⟩ := q
    cases h
    refine ⟨q1, ?_, ?_⟩
    · generalize os.dropLast = ds at q2
      clear q1
      induction ds with
      | nil => rfl
      | cons o r ih =>
        simp only [List.all_cons, Bool.and_eq_true] at q2
        cases o with
        | none => simp [okOpt] at q2
        | some i => simp only [List.filterMap_cons, List.map_cons]; rw [← ih q2.2]
    · rw [lawful_filterMap (all_some_of_ok q2)]; exact q2
  · cases h
/-- words that the law draws -/
def Entry (w : Str) (o : Option Int) : Prop := numOf w = o ∧ 32 ∉ w.cps.toList ∧ w.length ≤ 8
def tBad : List Str := ["", "-", "--1", "+1", "1-", "1_0", "x", "/", ":", "1\t0", "p", ""]
def tZero : List Str := ["0", "00", "-0"]
def tLits : List (Str × Int) := [("1", 1), ("-1", -1), ("2", 2), ("-2", -2), ("3", 3), ("10", 10), ("-12", -12), ("007", 7), ("-5", -5), ("6", 6), ("-08", -8), ("9", 9)]
theorem bad_ok : ∀ w ∈ tBad, Entry w none := by unfold Entry; decide +kernel
theorem zero_ok : ∀ w ∈ tZero, Entry w (some 0) := by unfold Entry; decide +kernel
theorem lits_ok : ∀ p ∈ tLits, Entry p.1 (some p.2) := by unfold Entry; decide +kernel
def intStr (i : Int) : Str := Str.ofString (toString i)
theorem int_ok : ∀ k : Fin 32, Entry (intStr ((k : Nat) - 16 : Int)) (some ((k : Nat) - 16 : Int)) := by unfold Entry; decide +kernel
theorem intStr_ok {i : Int} (h1 : -16 ≤ i) (h2 : i < 16) : Entry (intStr i) (some i) := by
  have := int_ok ⟨(i + 16).toNat, by omega⟩
  have e : (((⟨(i + 16).toNat, by omega⟩ : Fin 32) : Nat) - 16 : Int) = i := by show ((i + 16).toNat : Int) - 16 = i; omega
  rw [e] at this
  exact this
theorem neg_ok : ∀ k : Fin 16, Entry (Str.ofString "-" ++ intStr ((k : Nat) : Int)) (some (-((k : Nat) : Int))) := by unfold Entry; decide +kernel
theorem negStr_ok {i : Int} (h1 : 0 ≤ i) (h2 : i < 16) : Entry (Str.ofString "-" ++ intStr i) (some (-i)) := by
  have := neg_ok ⟨i.toNat, by omega⟩
  have e : (((⟨i.toNat, by omega⟩ : Fin 16) : Nat) : Int) = i := by show (i.toNat : Int) = i; omega
  rw [e] at this
  exact this
end Mine
end

section
namespace Mine
open PySem
def sp : Str := ⟨#[32]⟩
theorem sp_is : Str.ofString " " = sp := by decide +kernel
theorem list_part {c : Nat} : ∀ {a b x y : List Nat}, c ∉ a → c ∉ b → a ++ c :: x = b ++ c :: y → a = b ∧ x = y
  | [], [], _, _, _, _, h => ⟨rfl, (List.cons.inj h).2⟩
  | [], d :: b, _, _, _, hb, h => by
    have := (List.cons.inj h).1
    exact absurd (this ▸ List.mem_cons_self) hb
  | d :: a, [], _, _, ha, _, h => by
    have := (List.cons.inj h).1
    exact absurd (this ▸ List.mem_cons_self) ha
  | d :: a, e :: b, x, y, ha, hb, h => by
    obtain ⟨h1, h2⟩ := List.cons.inj h
    obtain ⟨q1, q2⟩ := list_part (fun m => ha (List.mem_cons_of_mem _ m)) (fun m => hb (List.mem_cons_of_mem _ m)) h2
    exact ⟨by rw [h1, q1], q2⟩
theorem str_ext {a b : Str} (h : a.cps.toList = b.cps.toList) : a = b := by
  obtain ⟨⟨x⟩⟩ := a
  obtain ⟨⟨y⟩⟩ := b
  simp only at h
  rw [h]
theorem cps_app (a b : Str) : (a ++ b).cps.toList = a.cps.toList ++ b.cps.toList := by
  show (a.cps ++ b.cps).toList = _
  simp
theorem join_cons (c : Nat) (a b : Str) (r : List Str) : (Str.join ⟨#[c]⟩ (a :: b :: r)).cps.toList = a.cps.toList ++ c :: (Str.join ⟨#[c]⟩ (b :: r)).cps.toList := by
  show (a ++ ⟨#[c]⟩ ++ Str.join ⟨#[c]⟩ (b :: r)).cps.toList = _
  rw [cps_app, cps_app]
  simp
theorem join_inj {c : Nat} : ∀ {us vs : List Str}, us ≠ [] → vs ≠ [] → (∀ p ∈ us, c ∉ p.cps.toList) → (∀ p ∈ vs, c ∉ p.cps.toList) →
    (Str.join ⟨#[c]⟩ us).cps.toList = (Str.join ⟨#[c]⟩ vs).cps.toList → us = vs
  | [], _, h, _, _, _, _ => absurd rfl h
  | _, [], _, h, _, _, _ => absurd rfl h
  | [a], [b], _, _, _, _, h => by rw [str_ext (a := a) (b := b) h]
  | [a], b :: d :: r, _, _, ha, _, h => by
    rw [join_cons] at h
    have h' : a.cps.toList = b.cps.toList ++ c :: (Str.join ⟨#[c]⟩ (d :: r)).cps.toList := h
    exact absurd (h' ▸ List.mem_append_right _ List.mem_cons_self) (ha a List.mem_cons_self)
  | a :: e :: q, [b], _, _, _, hb, h => by
    rw [join_cons] at h
    have h' : a.cps.toList ++ c :: (Str.join ⟨#[c]⟩ (e :: q)).cps.toList = b.cps.toList := h
    exact absurd (h' ▸ List.mem_append_right _ List.mem_cons_self) (hb b List.mem_cons_self)
  | a :: e :: q, b :: d :: r, _, _, ha, hb, h => by
    rw [join_cons, join_cons] at h
    obtain ⟨h1, h2⟩ := list_part (ha a List.mem_cons_self) (hb b List.mem_cons_self) h
    have ih := join_inj (us := e :: q) (vs := d :: r) (by simp) (by simp) (fun p hp => ha p (List.mem_cons_of_mem _ hp)) (fun p hp => hb p (List.mem_cons_of_mem _ hp)) h2
    rw [str_ext h1, ih]
theorem split_ne (x y : Str) : Txt.split x y ≠ [] := by
  unfold Txt.split
  split
  · simp
  · split
    · simp
    · rw [StrLaws.partsBetween_eq]
      obtain ⟨p, r, e⟩ := StrLaws.partsFrom_ne x y.length 0 (Builtin.Str.occurrences x y 0 x.length (x.length + 1))
      rw [e]
      simp
theorem split_join {ws : List Str} (hn : ws ≠ []) (hf : ∀ p ∈ ws, 32 ∉ p.cps.toList) : Txt.split (Str.join sp ws) sp = ws :=
  join_inj (c := 32) (split_ne _ _) hn (StrLaws.split_free _ 32) hf (by
    have := StrLaws.join_split (Str.join sp ws) sp
    exact congrArg (fun s : Str => s.cps.toList) this)
/-- the law's text, lit by lit -/
def textFrom (t : Str) (l : List Int) : Str := l.foldl (fun t i => t ++ intStr i ++ sp) t
theorem app_assoc (a b c : Str) : a ++ b ++ c = a ++ (b ++ c) := str_ext (by simp [cps_app])
theorem nil_app (a : Str) : Str.empty ++ a = a := str_ext (by simp [cps_app, Str.empty])
theorem textFrom_join : ∀ (l : List Int) (t z : Str), textFrom t l ++ z = t ++ Str.join sp (l.map intStr ++ [z])
  | [], t, z => rfl
  | i :: r, t, z => by
    have ih := textFrom_join r (t ++ intStr i ++ sp) z
    show textFrom (t ++ intStr i ++ sp) r ++ z = _
    rw [ih]
    obtain ⟨b, q, e⟩ : ∃ b q, r.map intStr ++ [z] = b :: q := by
      cases r with
      | nil => exact ⟨_, _, rfl⟩
      | cons j r => exact ⟨_, _, rfl⟩
    rw [List.map_cons, List.cons_append, e]
    show t ++ intStr i ++ sp ++ Str.join sp (b :: q) = t ++ (intStr i ++ sp ++ Str.join sp (b :: q))
    simp only [app_assoc]
theorem lit_bounds {n : Int} (hn : n < 13) {l : List Int} (h : lawful n l = true) : ∀ i ∈ l, -16 ≤ i ∧ i < 16 := fun i hi => by
  have := List.all_eq_true.mp h i hi
  unfold okLit at this
  have := of_decide_eq_true this
  omega
theorem map_numOf {l : List Int} (h : ∀ i ∈ l, -16 ≤ i ∧ i < 16) : (l.map intStr).map numOf = l.map some := by
  rw [List.map_map]
  exact List.map_congr_left fun i hi => (intStr_ok (h i hi).1 (h i hi).2).1
def zero1 : Str := Str.ofString "0"
theorem zero1_ok : Entry zero1 (some 0) := zero_ok _ (by decide +kernel)
/-- the way back: the canonical text reads to the same clause -/
theorem read_back {n : Int} (hn : n < 13) {l : List Int} (h : lawful n l = true) : readW (Txt.split (textFrom Str.empty l ++ zero1) sp) n = some l := by
  have hb := lit_bounds hn h
  rw [textFrom_join, nil_app, split_join (by simp) (by
    intro p hp
    rcases List.mem_append.mp hp with hp | hp
    · obtain ⟨i, hi, rfl⟩ := List.mem_map.mp hp
      exact (intStr_ok (hb i hi).1 (hb i hi).2).2.1
    · rw [List.mem_singleton.mp hp]; exact zero1_ok.2.1), read_due, List.map_append, map_numOf hb]
  have e0 : numOf zero1 = some 0 := zero1_ok.1
  unfold due
  simp only [List.map_cons, List.map_nil, e0]
  rw [List.getLast?_append, List.dropLast_concat]
  have e : (l.map some).filterMap (fun o : Option Int => o) = l := by
    induction l with
    | nil => rfl
    | cons i r ih => rw [List.map_cons, List.filterMap_cons]; exact congrArg (i :: ·) (ih (by unfold lawful at h ⊢; simp only [List.all_cons, Bool.and_eq_true] at h; exact h.2) fun j hj => hb j (List.mem_cons_of_mem _ hj))
  have e2 : (l.map some).all (okOpt n) = true := by
    rw [List.all_map]; exact h
  simp [e, e2]
theorem textFrom_len : ∀ (l : List Int) (t : Str), (∀ i ∈ l, -16 ≤ i ∧ i < 16) → (textFrom t l).length ≤ t.length + 9 * l.length
  | [], t, _ => by simp [textFrom]
  | i :: r, t, h => by
    have ih := textFrom_len r (t ++ intStr i ++ sp) fun j hj => h j (List.mem_cons_of_mem _ hj)
    have hi := (intStr_ok (h i List.mem_cons_self).1 (h i List.mem_cons_self).2).2.2
    have e : (t ++ intStr i ++ sp).length = t.length + (intStr i).length + 1 := by
      show ((t ++ intStr i ++ sp).cps).size = t.cps.size + (intStr i).cps.size + 1
      rw [← Array.length_toList, cps_app, cps_app]
      simp [sp, Nat.add_assoc]
    show (textFrom (t ++ intStr i ++ sp) r).length ≤ _
    rw [e] at ih
    simp only [List.length_cons]
    omega
end Mine
end

section
namespace Mine
open PySem PyProof.Rows
theorem str_eta (w : Str) : w = ⟨w.cps.toList.toArray⟩ := by obtain ⟨⟨l⟩⟩ := w; rfl
theorem len_mk (l : List Nat) : Str.length ⟨l.toArray⟩ = l.length := by simp [Str.length]
theorem head_slice (c : Nat) (r : List Nat) : Txt.slice ⟨(c :: r).toArray⟩ none (some 1) = ⟨#[c]⟩ := by
  have h := slice_closes_toL (x := ⟨(c :: r).toArray⟩) (j := 1) (by decide) (by rw [len_mk]; simp only [List.length_cons]; omega)
  have := eq_of_beq h
  rw [this]
  simp
theorem tail_slice (c : Nat) (r : List Nat) : Txt.slice ⟨(c :: r).toArray⟩ (some 1) none = ⟨r.toArray⟩ := by
  have h := slice_from_eq (x := ⟨(c :: r).toArray⟩) (i := 1) (b := ((c :: r).length : Int)) (by decide) (by rw [len_mk]; simp only [List.length_cons]; omega) (by rw [len_mk])
  rw [h]
  simp only [List.length_cons]
  have e : (((r.length + 1 : Nat) : Int) - 1).toNat = r.length := by omega
  rw [e]
  simp
theorem slice_empty : Txt.slice Str.empty none (some 1) = Str.empty := by decide +kernel
theorem one_is {c d : Nat} : ((⟨#[c]⟩ : Str) == ⟨#[d]⟩) = (c == d) := by
  rw [Bool.eq_iff_iff]
  simp
def tenDigits : Str := Str.ofString "0123456789"
theorem tenDigits_is : tenDigits.cps.toList = [48, 49, 50, 51, 52, 53, 54, 55, 56, 57] := by decide +kernel
theorem digit_in (c : Nat) : (!(Builtin.Str.occurrences tenDigits ⟨#[c]⟩ 0 tenDigits.length 1).isEmpty) = decide (48 ≤ c ∧ c ≤ 57) := by
  rw [StrLaws.found_one, tenDigits_is]
  rw [Bool.eq_iff_iff, decide_eq_true_eq, decide_eq_true_eq]
  constructor
  · intro h
    simp only [List.mem_cons, List.not_mem_nil, or_false] at h
    omega
  · intro h
    simp only [List.mem_cons, List.not_mem_nil, or_false]
    omega
/-- a loop's letter: the value so far of the signs taken -/
theorem digVal_append : ∀ (l r : List Nat) (a : Int), digVal (l ++ r) a = (digVal l a).bind fun b => digVal r b
  | [], r, a => rfl
  | c :: l, r, a => by
    show (if 48 ≤ c ∧ c ≤ 57 then digVal (l ++ r) (a * 10 + (c : Int) - 48) else none) = ((if 48 ≤ c ∧ c ≤ 57 then digVal l (a * 10 + (c : Int) - 48) else none) : Option Int).bind _
    split
    · exact digVal_append l r _
    · rfl
theorem digVal_bound : ∀ (l : List Nat) (a b : Int), 0 ≤ a → digVal l a = some b → 0 ≤ b ∧ b < (a + 1) * 10 ^ l.length
  | [], a, b, h, e => by cases e; simp; omega
  | c :: l, a, b, h, e => by
    have e' : (if 48 ≤ c ∧ c ≤ 57 then digVal l (a * 10 + (c : Int) - 48) else none) = some b := e
    split at e'
    · rename_i hc
      obtain ⟨h1, h2⟩ := digVal_bound l _ b (by omega) e'
      refine ⟨h1, Int.lt_of_lt_of_le h2 ?_⟩
      have h3 : a * 10 + (c : Int) - 48 + 1 ≤ (a + 1) * 10 := by omega
      have h4 : (0 : Int) ≤ 10 ^ l.length := Int.pow_nonneg (by decide)
      calc (a * 10 + (c : Int) - 48 + 1) * 10 ^ l.length ≤ (a + 1) * 10 * 10 ^ l.length := Int.mul_le_mul_of_nonneg_right h3 h4
        _ = (a + 1) * 10 ^ (l.length + 1) := by rw [Int.pow_succ, Int.mul_assoc, Int.mul_comm 10 (10 ^ l.length)]
        _ = (a + 1) * 10 ^ (c :: l).length := rfl
    · cases e'
end Mine
end

section
set_option maxRecDepth 100000
namespace Mine
open PySem PySem.W PySem.Calls PySem.Spec PyProof.Rows
section
variable {M : Model} {A : Around} {E : Value → Shared → Prop} {s : Shared}
/-- the mark of the flight set anew while the exception is held in a frame -/
theorem flight_again {B : Heap} {l : List Env} {e L L' : Addr} {cls a0 : Value} {Q : Unit → Shared → Prop} (R : Heap.HeldW B l e cls a0 L s.heap)
    (h : ∀ h', Heap.HeldW B l e cls a0 L' h' → s.heap.UpToSlots h' → Q () { s with heap := h' }) : wpAny M A (setFlight (.ref e) (some L')) Q E s := by
  obtain ⟨kb, ke, kf, oe, fs, T, oT, ts, he, hc, hd, h1, hn, hne, hT, hdT, h3⟩ := R
  have h4 : 3 < ts.size := (Array.getElem?_eq_some_iff.mp h3).1
  have far : ∀ b, b ≠ T → (s.heap.update T (Obj.mapFields (·.setIfInBounds 3 ((some L').elim Value.none fun f => rawInt f)))).get? b = s.heap.get? b := fun b hb => Heap.get?_update_other _ _ (Ne.symm hb)
  have offT : ∀ b o, s.heap.get? b = some o → (∀ vs, o.data ≠ .fields vs) → b ≠ T := fun b o hb hnf q => by
    rw [q, hT] at hb; cases hb; exact hnf ts hdT
  unfold setFlight
  refine wpAny_bind (wpAny_field he hd h1 ?_)
  rw [if_pos (show (Value.ref T != Value.none) = true from by simp)]
  refine wpAny_setField hT hdT h4 (h _ ⟨?_, ke, ?_, ?_⟩ ?_)
  · exact fun b o hb => (far b fun q => by rw [q, hn] at hb; cases hb).trans (kb b o hb)
  · exact kf.of_keeps fun b o hb hnf => ⟨o, (far b (offT b o hb hnf)).trans hb, rfl⟩
  · exact ⟨oe, fs, T, _, _, (far e (Ne.symm hne)).trans he, hc, hd, h1, hn, hne, Heap.get?_update_self _ hT (Obj.isFreed_of_fields (Obj.data_mapFields hdT _)), Obj.data_mapFields hdT _, by simp [h4]⟩
  · exact fun b o hb hnf => ⟨o.slots, (far b (offT b o hb hnf)).trans hb⟩
end
theorem frames_but {h h' B : Heap} {C : Addr} (hs : Heap.SameBut C h h') : ∀ {l : List Env}, h.FunFrames B l → C ∉ l.filterMap (·.frame) → h'.FunFrames B l
  | [], _, _ => trivial
  | env :: r, ⟨hk, ⟨L, o, hf, hn, ho, hd⟩, hr⟩, hC => by
    have hL : L ≠ C := fun q => hC (List.mem_filterMap.mpr ⟨env, List.mem_cons_self, by rw [hf, q]⟩)
    refine ⟨hk, ⟨L, o, hf, hn, hs.extBut L o hL ho, hd⟩, frames_but hs hr fun q => hC ?_⟩
    obtain ⟨e, he, hq⟩ := List.mem_filterMap.mp q
    exact List.mem_filterMap.mpr ⟨e, List.mem_cons_of_mem _ he, hq⟩
/-- an exception held stays held where a name's table C, off all that is known, turns -/
theorem held_but {B h h' : Heap} {l : List Env} {e C L : Addr} {cls a0 : Value} {oC : Obj} (H : Heap.HeldW B l e cls a0 L h) (hs : Heap.SameBut C h h') (hB : B.get? C = none) (hC : h.get? C = some oC) (hd : ∀ vs, oC.data ≠ .fields vs)
    (hl : C ∉ l.filterMap (·.frame)) : Heap.HeldW B l e cls a0 L h' := by
  obtain ⟨kb, ke, kf, oe, fs, T, oT, ts, he, hc, hde, h1, hn, hne, hT, hdT, h3⟩ := H
  have eC : e ≠ C := fun q => by rw [q, hC] at he; cases he; exact hd _ hde
  have tC : T ≠ C := fun q => by rw [q, hC] at hT; cases hT; exact hd _ hdT
  refine ⟨fun b o hb => hs.extBut b o (fun q => by rw [q, hB] at hb; cases hb) (kb b o hb), ke, frames_but hs kf hl, ?_⟩
  exact ⟨oe, fs, T, oT, ts, hs.extBut e oe eC he, hc, hde, h1, hn, hne, hs.extBut T oT tC hT, hdT, h3⟩
section
variable {prog : Program} {w : World} {A A₀ : Around} {E : Value → Shared → Prop} {s' : Shared} {base g G : Heap} {outer : List Env} {L a e t C : Addr} {m mC : Str → Option Value} {name : Str} {scope : Scope} {cd cls : Value} {oC : Obj}
  {vs : List Value} {news all : List (Addr × Obj)}
/-- a raise inside a comprehension: its names let go, the exception goes on in the frame -/
theorem comp_raised {cenv : Env} {Q : Value → Shared → Prop} (hA : A.frames = some (envOf name scope L a cd :: outer)) (K : Below A₀ base outer g) (F : Fr g L G m)
    (R : RaisedS base G (envOf name scope L a cd :: outer) e cls t vs all s'.heap) (hsm : G.UpToSlots s'.heap) (hC : (C, oC) ∈ all) (hoC : LCg.NsObj oC mC) (hCL : C ≠ L) (hsub : ∀ q ∈ news, q ∈ all ∧ q.1 ≠ C)
    (hf : cenv.frame = some L) (hout : ∀ b ∈ outer.filterMap (·.frame), b ≠ C)
    (k : ∀ h', RaisedH base G (envOf name scope L a cd :: outer) L e cls t vs news h' → G.UpToSlots h' → E (.ref e) { s' with heap := h' }) :
    notedBy (model prog w) A cenv (fun x s₁ => ∃ m₁, s₁.heap.Ns C m₁ ∧ ∀ h', Heap.SameBut C s₁.heap h' → wpAny (model prog w) A (PySem.passOn "comprehension.variables-let-go" x cenv) Q E { s₁ with heap := h' }) (.ref e) s' := by
  obtain ⟨⟨B, hB, hBG, hl, hfl, hnew⟩, htup⟩ := R
  have e1 : noteFrame (.ref e) cenv = noteFrame (.ref e) (envOf name scope L a cd) := by
    unfold noteFrame PySem.frameOf
    rw [hf]
    rfl
  unfold notedBy
  rw [e1]
  refine wpAny_looks_onW hA rfl hfl fun h₂ hh hs₂ => ?_
  have hBC := (hl _ hC).1
  have h2C : h₂.get? C = some oC := hh.1 _ _ hBC
  refine ⟨mC, hoC.ns h2C, fun h₃ hs₃ => ?_⟩
  obtain ⟨es, ep, hdC, _⟩ := id hoC
  have hnf : ∀ vs, oC.data ≠ .fields vs := fun vs q => by rw [hdC] at q; cases q
  have hCl : C ∉ (envOf name scope L a cd :: outer).filterMap (·.frame) := fun hm => by
    rcases kts_mem hm with z | z
    · exact hCL z
    · exact hout C z rfl
  have stB : (hideAll B [C]).StaysIn B := fun b o q => of_hideAll _ q
  have nC : ∀ {b : Addr} {o : Obj}, B.get? b = some o → b ≠ C → (hideAll B [C]).get? b = some o := fun q hb => hideAll_get _ q (by simpa using hb)
  have hh₃ := held_but (heldW_base stB hh) hs₃ (hideAll_none _ (List.mem_singleton.mpr rfl)) h2C hnf hCl
  have gC : G.get? C = none := (hl _ hC).2.1
  have bC : base.get? C = none := (hl _ hC).2.2
  have up₃ : G.UpToSlots h₃ := fun b o hb hn => by
    obtain ⟨sl, q⟩ := (hsm.trans hs₂) b o hb hn
    exact ⟨sl, hs₃.extBut b _ (fun z => by rw [z, gC] at hb; cases hb) q⟩
  have ht : B.get? t = none := hnew
  have htC : t ≠ C := fun z => by rw [z, hBC] at ht; cases ht
  have tup₃ : h₃.TupAt t vs := by
    obtain ⟨o, n, ho, hc, hd⟩ := htup.of_slots hs₂
    exact ⟨o, n, hs₃.extBut t o htC ho, hc, hd⟩
  obtain ⟨_, _, _, oe, fs, T, oT, ts, he, hc, hd, h1, _⟩ := id hh₃
  unfold PySem.passOn
  refine wpAny_bind (wpAny_field he hd h1 ?_)
  rw [if_neg (show ¬ ((Value.ref T == Value.none) = true) from by simp), hf]
  have fin : ∀ h', Heap.HeldW (hideAll B [C]) (envOf name scope L a cd :: outer) e cls (.ref t) L h' → h₃.UpToSlots h' → E (.ref e) { s' with heap := h' } := fun h' hh' hs' => by
    refine k h' ⟨⟨hideAll B [C], fun b o q => nC (hB b o q) (fun z => by rw [z, bC] at q; cases q), fun b o q nm => nC (hBG b o q nm) (fun z => by rw [z, gC] at q; cases q), fun q hq => ?_, hh', ?_⟩, tup₃.of_slots hs'⟩ (up₃.trans hs')
    · obtain ⟨q1, q2⟩ := hsub q hq
      exact ⟨nC (hl q q1).1 q2, (hl q q1).2⟩
    · cases z : (hideAll B [C]).get? t with
      | none => rfl
      | some o => have := of_hideAll _ z; rw [hnew] at this; cases this
  first
    | exact wpAny_bind (wpAny_pure (wpAny_bind (flight_again hh₃ fun h' hh' hs' => wpAny_throw (fin h' hh' hs'))))
    | exact wpAny_bind (flight_again hh₃ fun h' hh' hs' => wpAny_throw (fin h' hh' hs'))
end
end Mine
end

section
set_option maxRecDepth 100000
namespace Mine
open PySem PySem.W PySem.Calls PySem.Spec PyProof.Rows
/-- what a comprehension's source hands on: the turns (each ends, or raises an exception that is told), the end, the raise -/
def CompR (prog : Program) (w : World) (A : Around) (base g : Heap) (outer : List Env) (name : Str) (scope : Scope) (L a : Addr) (cd cls : Value) (m : Str → Option Value) (elt : Expr) (x y : Str) (cscope : Scope) (J : Nat → List Value → Prop) (Bad : Prop)
    (Q : Flow → Shared → Prop) (E : Value → Shared → Prop) (xv : Value) (s₁ : Shared) : Prop :=
  ∃ ax its k news, xv = .ref ax ∧ A.handled = none ∧ Fr g L s₁.heap m ∧ News g L s₁.heap news ∧ (ax, ({ cls := .type "list", data := .seq its k } : Obj)) ∈ news ∧ its.size ≤ sizeLine ∧ J 0 [] ∧
    (∀ i v ys I oI C oC D mC h tk, its[i]? = some v → J i ys → LCg.NsObj oC mC → mC x = some v → Fr g L h m → News g L h ((I, oI) :: (C, oC) :: (D, LCg.lst ys) :: news) → LCg.Off3 I C D news → ((@Ne Nat I C) ∧ (@Ne Nat I D) ∧ (@Ne Nat C D)) →
      wpAny (model prog w) A (eval elt (compEnvC cscope [] C (envOf name scope L a cd)))
        (fun y' s₃ => ∃ h' tk', s₃ = { s₁ with heap := h', toks := tk' } ∧ Fr g L h' m ∧ News g L h' ((I, oI) :: (C, oC) :: (D, LCg.lst ys) :: news) ∧ J (i + 1) (ys ++ [y']))
        (fun ev s₃ => ∃ G e t vs h' tk', ev = .ref e ∧ s₃ = { s₁ with heap := h', toks := tk' } ∧ Fr g L G m ∧ RaisedS base G (envOf name scope L a cd :: outer) e cls t vs ((I, oI) :: (C, oC) :: (D, LCg.lst ys) :: news) h' ∧ G.UpToSlots h' ∧ Bad)
        { s₁ with heap := h, toks := tk }) ∧
    (∀ ys D h tk, J its.size ys → ys.length = its.size → Fr g L h (fun z => if z = y then some (.ref D) else m z) → News g L h ((D, LCg.lst ys) :: news) → LCg.Off1 D news → Q .next { s₁ with heap := h, toks := tk }) ∧
    (∀ G e t vs h tk, Bad → Fr g L G m → RaisedH base G (envOf name scope L a cd :: outer) L e cls t vs news h → G.UpToSlots h → E (.ref e) { s₁ with heap := h, toks := tk })
section
variable {prog : Program} {w : World} {A A₀ : Around} {E : Value → Shared → Prop} {s : Shared} {base g : Heap} {outer : List Env} {L a : Addr} {m : Str → Option Value} {name : Str} {scope : Scope} {cd cls : Value} {J : Nat → List Value → Prop} {Bad : Prop}
theorem assign_comp {elt iter : Expr} {x y : Str} {px py : Pos} {cscope : Scope} {pos spos : Pos} {Q : Flow → Shared → Prop} (_F₀ : Fr g L s.heap m) (hA : A.frames = some (envOf name scope L a cd :: outer)) (K : Below A₀ base outer g)
    (hsw : swapsWith (.ListComp elt [⟨.Name x px, iter, [], 0⟩] cscope pos) (some (.Name y py)) spos.line (envOf name scope L a cd) = pure true)
    (hfree : ∀ z ∈ cscope.names, z.2 ≠ .free) (hcell : ∀ z ∈ cscope.names, z.2 ≠ .cell) (hkind : cscope.kind = .function)
    (hnames : ∀ z ∈ cscope.names, z.2 = .local → cscope.names.lookup z.1 = some .local) (hx : cscope.names.lookup x = some .local) (hrel : relabel cscope (envOf name scope L a cd) = cscope)
    (hy : (envOf name scope L a cd).kindOf y = some .local) (hk : scope.kind = .function)
    (hs : ∀ x, foldedSetIterable iter (envOf name scope L a cd) x = pure x)
    (h : wpAny (model prog w) A (eval iter (envOf name scope L a cd)) (CompR prog w A base g outer name scope L a cd cls m elt x y cscope J Bad Q E) E s) :
    wpAny (model prog w) A (exec (.Assign [.Name y py] (.ListComp elt [⟨.Name x px, iter, [], 0⟩] cscope pos) spos) (envOf name scope L a cd)) Q E s := by
  rw [exec_Assign_Name_used _ _ _ _ hsw]
  refine wpAny_bind (wpAny_standAt (wpAny_bind ?_))
  show wpAny _ A (do let _ ← comprehension (.ListComp elt [⟨.Name x px, iter, [], 0⟩] cscope pos) cscope (envOf name scope L a cd) _ (newList []) false (eval iter (envOf name scope L a cd)) (some (assign (.Name y py) (envOf name scope L a cd)))) _ _ s
  refine wpAny_bind (wpAny_mono (wpAny_comprehension_use (Q := fun _ s' => Q .next s') rfl hs hfree hkind hnames (wpAny_mono h (fun xv s₁ h₁ => ?_) fun _ _ e => e)) (fun _ s' hq => wpAny_pure (wpAny_pure hq)) fun _ _ e => e)
  obtain ⟨ax, its, k, news, rfl, hh, F, N, hm, hsz, hJ, turn, done, rais⟩ := h₁
  have hol := (N _ hm).1
  have hl : s₁.heap.IsList ax its := ⟨_, hol, rfl, k, rfl⟩
  have axlt : ax < s₁.heap.objs.size := Heap.lt_size hol
  refine wpAny_pyIter_list hl (wpAny_newObj_type (wpAny_newFunctionEnv hcell (by intro z hz; simp at hz) (fun h₁ hns₁ hsb₁ => ?_) hkind))
  dsimp only at hns₁ hsb₁ ⊢
  generalize hH1 : s₁.heap.push { cls := .type "list_iterator", data := .fields #[.ref ax, .int 0 0] } = H1 at hns₁ hsb₁ ⊢
  generalize hH2 : H1.push { cls := .type "list", dict := none, data := .seq ([] : List Value).toArray } = H2 at hns₁ hsb₁ ⊢
  have z1 : H1.objs.size = s₁.heap.objs.size + 1 := by rw [← hH1, Heap.size_push]
  have z2 : H2.objs.size = s₁.heap.objs.size + 2 := by rw [← hH2, Heap.size_push, z1]
  generalize hI : s₁.heap.objs.size = I at *
  generalize hD : H1.objs.size = D at *
  generalize hC : H2.objs.size = C at *
  have nID : (I : Nat) ≠ D := by omega
  have nIC : (I : Nat) ≠ C := by omega
  have nDC : (D : Nat) ≠ C := by omega
  have up1 : ∀ b o, s₁.heap.get? b = some o → H1.get? b = some o := fun b o q => hH1 ▸ Heap.get?_push_of_some _ q
  have up2 : ∀ b o, H1.get? b = some o → H2.get? b = some o := fun b o q => hH2 ▸ Heap.get?_push_of_some _ q
  have up3 : ∀ b o, b ≠ C → H2.get? b = some o → h₁.get? b = some o := fun b o hb q => hsb₁.extBut b o hb (Heap.get?_push_of_some _ q)
  have lt : ∀ b o, s₁.heap.get? b = some o → b < I := fun b o q => hI ▸ Heap.lt_size q
  have offC : ∀ b o, s₁.heap.get? b = some o → b ≠ C := fun b o q => Nat.ne_of_lt (Nat.lt_trans (lt b o q) (by omega))
  have offD : ∀ b o, s₁.heap.get? b = some o → b ≠ D := fun b o q => Nat.ne_of_lt (Nat.lt_trans (lt b o q) (by omega))
  have offI : ∀ b o, s₁.heap.get? b = some o → b ≠ I := fun b o q => Nat.ne_of_lt (lt b o q)
  have old : ∀ b o, s₁.heap.get? b = some o → h₁.get? b = some o := fun b o q => up3 b o (offC b o q) (up2 b o (up1 b o q))
  have gI : h₁.get? I = some { cls := .type "list_iterator", data := .fields #[.ref ax, .int 0 0] } := up3 _ _ nIC (up2 _ _ (hH1 ▸ hI ▸ Heap.get?_push_size _ rfl))
  have gD : h₁.get? D = some (LCg.lst []) := up3 _ _ nDC (hH2 ▸ hD ▸ Heap.get?_push_size _ rfl)
  have fresh : ∀ b, s₁.heap.get? b = none → g.get? b = none := fun b q => by
    cases z : g.get? b with
    | none => rfl
    | some o => have := F.keep b o z; rw [q] at this; cases this
  have above : ∀ b, I ≤ b → s₁.heap.get? b = none := fun b hb => by
    cases z : s₁.heap.get? b with
    | none => rfl
    | some o => exact absurd (lt b o z) (Nat.not_lt.mpr hb)
  have gI0 : g.get? I = none := fresh _ (above _ (Nat.le_refl _))
  have gD0 : g.get? D = none := fresh _ (above _ (by omega))
  have gC0 : g.get? C = none := fresh _ (above _ (by omega))
  have Llt : L < I := hI ▸ F.ns.lt
  have nLI : L ≠ I := Nat.ne_of_lt Llt
  have nLD : L ≠ D := Nat.ne_of_lt (Nat.lt_trans Llt (by omega))
  have nLC : L ≠ C := Nat.ne_of_lt (Nat.lt_trans Llt (by omega))
  have off3 : LCg.Off3 I C D news := LCg.Off3.of fun p hp => ⟨offI _ _ (N p hp).1, offC _ _ (N p hp).1, offD _ _ (N p hp).1⟩
  have off1 := off3.one
  have offs := off3.mem
  have hout : ∀ b ∈ outer.filterMap (·.frame), b ≠ C := fun b hb q => by
    obtain ⟨_, o, ho, _⟩ := K.frames.mem hb
    rw [q, gC0] at ho; cases ho
  have W := Walks.list (prog := prog) (w := w) hh I ax (Nat.ne_of_lt (hI ▸ axlt)) its
  have loop : ∀ s₃ : Shared, (∃ tk, s₃ = { s₁ with heap := h₁, toks := tk }) →
      codeAny (model prog w) A (.compLoop (.ListComp elt [⟨.Name x px, iter, [], 0⟩] cscope pos) 0 (.ref I) (.ref D) (compEnvC cscope [] C (envOf name scope L a cd)))
        (fun r s' => match r with
          | .ok _ => wpAny (model prog w) A (assign (.Name y py) (envOf name scope L a cd) (.ref D)) (fun _ s'' => ∃ m, s''.heap.Ns C m ∧ ∀ h', Heap.SameBut C s''.heap h' → Q .next { s'' with heap := h' }) E s'
          | .error x => ∃ m, s'.heap.Ns C m ∧ ∀ h', Heap.SameBut C s'.heap h' → wpAny (model prog w) A (PySem.passOn "comprehension.variables-let-go" x (compEnvC cscope [] C (envOf name scope L a cd)) : Sem Value) (fun _ s' => Q .next s') E { s' with heap := h' }) s₃ := by
    rintro s₃ ⟨tk₀, rfl⟩
    refine codeAny_compLoop_tests
      (fun n s' => ∃ h' tk i ys mC, s' = { s₁ with heap := h', toks := tk } ∧ i ≤ its.size ∧ n = its.size + 1 - i ∧ ys.length = i ∧ (h'.IsListIter I ax i ∧ h'.IsList ax its) ∧ Fr g L h' m ∧ h'.Ns C mC ∧ News g L h' ((D, LCg.lst ys) :: news) ∧ J i ys) ?_ (its.size + 1)
      ⟨h₁, _, 0, [], _, rfl, Nat.zero_le _, rfl, rfl, ⟨⟨_, gI, rfl, rfl⟩, hl.at fun o q => old _ _ q⟩, F.keeps old, hns₁, fun p hp => ?_, hJ⟩
    · rintro n s' ⟨h', tk, i, ys, mC, rfl, hi, rfl, hyl, hst, F', hns, N', hJi⟩
      by_cases hlt : i < its.size
      · refine W.item i _ _ _ hlt hst fun v h₂ tk₂ hv hst₂ hk₂ => ?_
        have k2 : ∀ b o, b ≠ I → h'.get? b = some o → h₂.get? b = some o := fun b o hb q => hk₂ b o (by simpa using hb) q
        refine wpAny_assign_Name (wpAny_storeName_local (by show (compEnvC cscope [] C (envOf name scope L a cd)).scope.names.lookup x = _; unfold compEnvC; rw [hrel]; exact hx) (hns.at' fun o q => k2 _ o (Ne.symm nIC) q) (fun h₃ hns₃ hs₃ => ?_)
          (by unfold compEnvC; rw [hrel, hkind]; rfl))
        refine wpAny_tests_nil ?_
        simp only [if_true]
        have k3 : ∀ b o, b ≠ I → b ≠ C → h'.get? b = some o → h₃.get? b = some o := fun b o hb hc q => hs₃.extBut b o hc (k2 b o hb q)
        have hst₃ := W.frame _ _ h₃ hst₂ fun b hb o q => hs₃.extBut b o (fun z => by
          rcases List.mem_cons.mp hb with r | r
          · exact nIC (r ▸ z)
          · rw [List.mem_singleton.mp r] at z
            exact absurd (show (ax : Nat) = C from z) (Nat.ne_of_lt (Nat.lt_trans axlt (by omega)))) q
        obtain ⟨oI, heI, _⟩ := hst₃.1
        obtain ⟨oC, heC, hoC⟩ := LCg.ns_obj hns₃
        have F₃ : Fr g L h₃ m := ⟨F'.ns.at' fun o q => k3 L o nLI nLC q, fun b o q => k3 b o (fun z => by rw [z, gI0] at q; cases q) (fun z => by rw [z, gC0] at q; cases q) (F'.keep b o q), F'.above⟩
        have N₃ : News g L h₃ ((I, oI) :: (C, oC) :: (D, LCg.lst ys) :: news) := fun p hp => by
          rcases List.mem_cons.mp hp with rfl | hp
          · exact ⟨heI, Ne.symm nLI, gI0⟩
          · rcases List.mem_cons.mp hp with rfl | hp
            · exact ⟨heC, Ne.symm nLC, gC0⟩
            · refine ⟨k3 _ _ ?_ ?_ (N' p hp).1, (N' p hp).2⟩
              · rcases List.mem_cons.mp hp with rfl | hp
                · exact Ne.symm nID
                · exact (offs p hp).1
              · rcases List.mem_cons.mp hp with rfl | hp
                · exact nDC
                · exact (offs p hp).2.1
        refine wpAny_mono (turn i v ys I oI C oC D _ h₃ _ hv hJi hoC (by simp) F₃ N₃ off3 ⟨nIC, nID, Ne.symm nDC⟩) (fun y' s₄ h₄ => ?_) (fun ev s₄ h₄ => ?_)
        · obtain ⟨h₄, tk₄, rfl, F₄, N₄, hJ₄⟩ := h₄
          have zI := (N₄ (I, oI) List.mem_cons_self).1
          have zC := (N₄ (C, oC) (List.mem_cons_of_mem _ List.mem_cons_self)).1
          have zD := (N₄ (D, LCg.lst ys) (List.mem_cons_of_mem _ (List.mem_cons_of_mem _ List.mem_cons_self))).1
          have N₄' : News g L h₄ news := fun p hp => N₄ p (List.mem_cons_of_mem _ (List.mem_cons_of_mem _ (List.mem_cons_of_mem _ hp)))
          refine append_at (hsz := by show ys.toArray.size ≤ sizeLine; rw [List.size_toArray, hyl]; exact Nat.le_trans hi hsz) zD fun h₅ hs₅ hD₅ => ?_
          have k5 : ∀ b o, b ≠ D → h₄.get? b = some o → h₅.get? b = some o := fun b o hb q => hs₅.extBut b o hb q
          refine ⟨its.size + 1 - (i + 1), by omega, h₅, tk₄, i + 1, ys ++ [y'], _, rfl, hlt, rfl, by rw [List.length_append, List.length_singleton, hyl], ⟨?_, ?_⟩, ⟨F₄.ns.at' fun o q => k5 L o nLD q, fun b o q => k5 b o (fun z => by rw [z, gD0] at q; cases q) (F₄.keep b o q), F₄.above⟩,
            (hoC.ns zC).at' fun o q => k5 C o (Ne.symm nDC) q, fun p hp => ?_, hJ₄⟩
          · obtain ⟨o', q, r⟩ := hst₃.1
            rw [heI] at q
            cases q
            exact ⟨oI, k5 I oI nID zI, r⟩
          · exact ⟨_, k5 ax _ (offD _ _ hol) (N₄' _ hm).1, rfl, k, rfl⟩
          · rcases List.mem_cons.mp hp with rfl | hp
            · exact ⟨hD₅.trans (congrArg some (LCg.lst_snoc ys y')), Ne.symm nLD, gD0⟩
            · exact ⟨k5 _ _ (offs p hp).2.2 (N₄' p hp).1, (N₄' p hp).2⟩
        · obtain ⟨G, e, t, vs, h₄, tk₄, rfl, rfl, FG, R, U, bad⟩ := h₄
          refine comp_raised (cenv := compEnvC cscope [] C (envOf name scope L a cd)) (s' := { s₁ with heap := h₄, toks := tk₄ }) (news := news) hA K FG R U (List.mem_cons_of_mem _ List.mem_cons_self) hoC (Ne.symm nLC) (fun q hq => ⟨List.mem_cons_of_mem _ (List.mem_cons_of_mem _ (List.mem_cons_of_mem _ hq)), (offs q hq).2.1⟩) rfl hout
            fun h₅ RH U₅ => rais G e t vs h₅ tk₄ bad FG RH U₅
      · obtain rfl : i = its.size := Nat.le_antisymm hi (Nat.not_lt.mp hlt)
        refine W.done _ _ _ hst fun h₂ tk₂ hk₂ => ?_
        have k2 : ∀ b o, b ≠ I → h'.get? b = some o → h₂.get? b = some o := fun b o hb q => hk₂ b o (by simpa using hb) q
        have F₂ : Fr g L h₂ m := ⟨F'.ns.at' fun o q => k2 L o nLI q, fun b o q => k2 b o (fun z => by rw [z, gI0] at q; cases q) (F'.keep b o q), F'.above⟩
        show wpAny _ A (assign (.Name y py) (envOf name scope L a cd) (.ref D)) _ _ _
        refine wpAny_assign_Name (wpAny_storeName_local hy F₂.ns (fun h₃ hn₃ hs₃ => ?_) (by show (scope.kind == .class || (scope.kind == .module && L != mainGlobals)) = false; rw [hk]; rfl))
        have hL0 : g.get? L = none := kts_self F₂
        refine ⟨_, (hns.at' fun o q => hs₃.extBut C o (Ne.symm nLC) (k2 C o (Ne.symm nIC) q)), fun h₄ hs₄ => ?_⟩
        have k4 : ∀ b o, b ≠ I → b ≠ L → b ≠ C → h'.get? b = some o → h₄.get? b = some o := fun b o b1 b2 b3 q => hs₄.extBut b o b3 (hs₃.extBut b o b2 (k2 b o b1 q))
        refine done ys D h₄ _ hJi hyl ⟨hn₃.at' fun o q => hs₄.extBut L o nLC q, fun b o q => k4 b o (fun z => by rw [z, gI0] at q; cases q) (fun z => by rw [z, hL0] at q; cases q) (fun z => by rw [z, gC0] at q; cases q) (F'.keep b o q), F'.above⟩ (fun p hp => ?_) off1
        refine ⟨k4 _ _ ?_ (N' p hp).2.1 ?_ (N' p hp).1, (N' p hp).2⟩
        · rcases List.mem_cons.mp hp with rfl | hp
          · exact Ne.symm nID
          · exact (offs p hp).1
        · rcases List.mem_cons.mp hp with rfl | hp
          · exact nDC
          · exact (offs p hp).2.1
    · rcases List.mem_cons.mp hp with rfl | hp
      · exact ⟨gD, Ne.symm nLD, gD0⟩
      · exact ⟨old _ _ (N p hp).1, (N p hp).2⟩
  have hst₁ : h₁.IsListIter I ax 0 ∧ h₁.IsList ax its := ⟨⟨_, gI, rfl, rfl⟩, hl.at fun o q => old _ _ q⟩
  have fin := codeAny_compStart_list (loop { s₁ with heap := h₁, toks := s₁.toks + ([] : List (Str × Value)).length } ⟨_, rfl⟩) (W.self 0 _ _ _ hst₁ (loop _ ⟨_, rfl⟩))
  simp only [compEnvC, hrel] at fin
  exact fin
end
end Mine
end

section
set_option maxRecDepth 100000
namespace Mine
open PySem PySem.W PySem.Calls PySem.Spec PyProof.Rows
/-- what holds between the turns of a loop over a list of the ledger that changes no object: the ledger as it was, the letters c in the frame's names -/
def RlS {σ : Type} (news : List (Addr × Obj)) (ps : σ → List (Str × Value)) (x : Str) (stored : List Str) (m₀ : Str → Option Value) (P : Nat → σ → Prop) (i : Nat) (m : Str → Option Value) (nx : List (Addr × Obj)) : Prop :=
  nx = news ∧ ∃ c : σ, (∀ p ∈ ps c, m p.1 = some p.2) ∧ (∀ z, z ≠ x → (∀ p ∈ ps c, z ≠ p.1) → stored.contains z = false → m z = m₀ z) ∧ P i c
def RlEnd {σ : Type} (h₀ : Heap) (L : Addr) (news : List (Addr × Obj)) (ps : σ → List (Str × Value)) (x : Str) (stored : List Str) (m₀ : Str → Option Value) (P : Nat → σ → Prop) (i : Nat) (own : List (Addr × Obj)) (s₁ : Shared) (Q : Flow → Shared → Prop) (f : Flow) (s₂ : Shared) : Prop :=
  match f with
  | .ret v => Q (.ret v) s₂
  | .brk => Q .next s₂
  | _ => ∃ h' tk m' news' c, s₂ = { s₁ with heap := h', toks := tk } ∧ Fr h₀ L h' m' ∧ News h₀ L h' news' ∧ (∀ p ∈ news ++ own, p ∈ news') ∧ (∀ p ∈ ps c, m' p.1 = some p.2) ∧ (∀ z, z ≠ x → (∀ p ∈ ps c, z ≠ p.1) → stored.contains z = false → m' z = m₀ z) ∧ P i c
section
variable {prog : Program} {w : World} {A : Around} {E : Value → Shared → Prop} {s : Shared} {env : Env} {h₀ : Heap} {x : Str} {body : List Stmt} {Q : Flow → Shared → Prop}
theorem read_loop {σ : Type} {l : Addr} {vs : List Value} {nn : Nat} {m₀ : Str → Option Value} {news : List (Addr × Obj)} (ps : σ → List (Str × Value)) (stored : List Str) (P : Nat → σ → Prop) (c₀ : σ)
    (hh : A.handled = none) (hl : (l, listOf vs.toArray nn) ∈ news) (F : Fr h₀ env.locals s.heap m₀) (N : News h₀ env.locals s.heap news) (hk : ∀ p ∈ ps c₀, m₀ p.1 = some p.2) (hp : P 0 c₀)
    (turn : ∀ (c : σ) i v (u : Str → Option Value) h tk own, vs[i]? = some v → OwnOff own (news.map (·.1)) → P i c →
      Fr h₀ env.locals h (fun y => if y = x then some v else kstB (fun z => if stored.contains z then u z else m₀ z) (ps c) y) → News h₀ env.locals h (news ++ own) →
      wpAny (model prog w) A (execs body env) (RlEnd h₀ env.locals news ps x stored m₀ P (i + 1) own { s with heap := h, toks := tk } Q) E { s with heap := h, toks := tk })
    (done : ∀ (c : σ) (u : Str → Option Value) h tk, P vs.length c → Fr h₀ env.locals h (fun y => if y = x then u y else kstB (fun z => if stored.contains z then u z else m₀ z) (ps c) y) → News h₀ env.locals h news → Q .next { s with heap := h, toks := tk }) :
    wpAny (model prog w) A (pyIter (.ref l)) (fun it s₂ => LoopAtV prog w A h₀ env x body Q E it s₂) E s := by
  refine kdl_iter (fun i m nx => RlS news ps x stored m₀ P i m nx) hh hl F N ⟨rfl, c₀, hk, fun _ _ _ _ => rfl, hp⟩ ?_ ?_
  · rintro i v m₁ news₁ h tk own hv hoff _ ⟨rfl, c, h1, h2, hp'⟩ F₁ N₁
    refine wpAny_mono (turn c i v m₁ h tk own hv hoff hp' (kst_fr h1 h2 F₁) N₁) (fun f s₂ p => ?_) fun _ _ e => e
    have up : (∃ h' tk' m' news' c', s₂ = { s with heap := h', toks := tk' } ∧ Fr h₀ env.locals h' m' ∧ News h₀ env.locals h' news' ∧ (∀ p ∈ news₁ ++ own, p ∈ news') ∧ (∀ p ∈ ps c', m' p.1 = some p.2) ∧ (∀ z, z ≠ x → (∀ p ∈ ps c', z ≠ p.1) → stored.contains z = false → m' z = m₀ z) ∧ P (i + 1) c') →
        InvEndG h₀ env.locals (fun m' nx => (l, listOf vs.toArray nn) ∈ nx ∧ RlS news₁ ps x stored m₀ P (i + 1) m' nx) own { s with heap := h, toks := tk } s₂ := by
      rintro ⟨h', tk', m', news', c', e, F', N', hn, hk', hr', hp''⟩
      exact ⟨h', tk', m', news', news₁, e, F', N', fun p hp => hn p (List.mem_append_left _ hp), fun p hp => hn p (List.mem_append_right _ hp), hoff, hl, rfl, c', hk', hr', hp''⟩
    cases f with
    | ret v => exact p
    | brk => exact p
    | next => exact up p
    | cont => exact up p
  · rintro m₁ news₁ h tk ⟨rfl, c, h1, h2, hp'⟩ F₁ N₁
    exact done c m₁ h tk hp' (kst_frOut h1 h2 F₁) N₁
end
end Mine
end

section
open PySem PySem.W PyProof.Rows
namespace Mine
set_option maxRecDepth 100000
set_option maxHeartbeats 8000000
open_top hd for PySem.Challenge.rw_pd_verdict_1_01
end Mine
end

section
open PySem PySem.W PySem.Calls PySem.Spec PyProof.Rows
set_option maxRecDepth 100000
set_option maxHeartbeats 1000000
set_option pp.deepTerms false
set_option pp.maxSteps 1500
namespace Mine
theorem fill : (∀ (w : World) (h : Heap), (hd.heap_39 w.params).In h → PySem.Challenge.rw_pd_verdict_1_01.foot = 9) := by k_fill; intros; rfl
theorem item0_is (c : Nat) (r : List Nat) : Txt.item ⟨(c :: r).toArray⟩ 0 = ⟨#[c]⟩ := by
  simp [Txt.item, Txt.charAt, seqIndex?, Str.length]
theorem item_zero {prog : Program} {w : World} {A : Around} {E : Value → Shared → Prop} {s : Shared} {value slice : Expr} {c : Nat} {r : List Nat} {t u : Tok} {Q : Value → Shared → Prop}
    (h : Q (.str ⟨#[c]⟩ s.toks) { s with toks := s.toks + 1 })
    (hs : subscripted slice false (.str ⟨(c :: r).toArray⟩ t) (.int 0 u) = operate [.str ⟨(c :: r).toArray⟩ t, .int 0 u] (getItem (.str ⟨(c :: r).toArray⟩ t) (.int 0 u)))
    (ht : ∀ v, letTemporaryGo value (.str ⟨(c :: r).toArray⟩ t) v = pure ()) :
    wpAny (model prog w) A (subscriptTail value slice (.str ⟨(c :: r).toArray⟩ t) (.int 0 u)) Q E s := by
  have e := len_mk (c :: r)
  have e' : (c :: r).length = r.length + 1 := rfl
  refine item_str (i := 0) rfl (by omega) (by omega) (fun _ => ?_) hs ht
  rw [item0_is]
  exact h
/-- one more digit -/
theorem now_turn {pre : List Int} {number : Int} {c : Nat} (h : digVal (pre.map Int.toNat) 0 = some number) (hc : (Builtin.Str.occurrences (Str.ofString "0123456789") ⟨#[c]⟩ 0 (Str.ofString "0123456789").length 1).isEmpty = false) :
    digVal ((pre ++ [(c : Int)]).map Int.toNat) 0 = some (number * 10 + (c : Int) - 48) := by
  have hd := digit_in c
  unfold tenDigits at hd
  rw [hc] at hd
  have hc' : 48 ≤ c ∧ c ≤ 57 := of_decide_eq_true hd.symm
  rw [List.map_append, digVal_append, h]
  show digVal [Int.toNat (c : Int)] number = _
  rw [Int.toNat_natCast]
  show (if 48 ≤ c ∧ c ≤ 57 then some (number * 10 + (c : Int) - 48) else none) = _
  rw [if_pos hc']
theorem now_start : digVal (([] : List Int).map Int.toNat) 0 = some 0 := rfl
theorem codes_nat (r : List Nat) : (KStt.codes ⟨r.toArray⟩).map Int.toNat = r := by
  unfold KStt.codes
  rw [List.map_map]
  exact (List.map_congr_left (g := _root_.id) fun c _ => Int.toNat_natCast c).trans (List.map_id _)
/-- a sign that is no digit -/
theorem now_bad {pre post : List Int} {number : Int} {c : Nat} {r : List Nat} (h : digVal (pre.map Int.toNat) 0 = some number) (e : KStt.codes ⟨r.toArray⟩ = pre ++ (c : Int) :: post)
    (hc : (Builtin.Str.occurrences (Str.ofString "0123456789") ⟨#[c]⟩ 0 (Str.ofString "0123456789").length 1).isEmpty = true) : digVal r 0 = none := by
  have hd := digit_in c
  unfold tenDigits at hd
  rw [hc] at hd
  have hc' : ¬ (48 ≤ c ∧ c ≤ 57) := of_decide_eq_false hd.symm
  have := codes_nat r
  rw [e, List.map_append, List.map_cons, Int.toNat_natCast] at this
  rw [← this, digVal_append, h]
  show (if 48 ≤ c ∧ c ≤ 57 then _ else none) = _
  rw [if_neg hc']
theorem now_end {number : Int} {r : List Nat} (h : digVal ((KStt.codes ⟨r.toArray⟩).map Int.toNat) 0 = some number) : digVal r 0 = some number := by rw [codes_nat] at h; exact h
theorem minus_is : Str.ofString "-" = ⟨#[45]⟩ := by decide +kernel
theorem empty_is : Str.ofString "" = ⟨#[]⟩ := by decide +kernel
theorem c_minus {c : Nat} (h : ((⟨#[c]⟩ : Str) == Str.ofString "-") = true) : c = 45 := by rw [minus_is, one_is] at h; simpa using h
theorem c_other {c : Nat} (h : ((⟨#[c]⟩ : Str) == Str.ofString "-") = false) : c ≠ 45 := by rw [minus_is, one_is] at h; simpa using h
theorem r_empty {r : List Nat} (h : ((⟨r.toArray⟩ : Str) == Str.ofString "") = true) : r = [] := by
  rw [empty_is] at h
  have := eq_of_beq h
  simpa using this
theorem r_some {r : List Nat} (h : ((⟨r.toArray⟩ : Str) == Str.ofString "") = false) : r ≠ [] := by
  rintro rfl
  rw [empty_is] at h
  exact absurd h (by decide)
theorem num_nil : numOf ⟨([] : List Nat).toArray⟩ = none := rfl
theorem num_empty {c : Nat} {r : List Nat} (h1 : ((⟨#[c]⟩ : Str) == Str.ofString "-") = true) (h2 : ((⟨r.toArray⟩ : Str) == Str.ofString "") = true) : numOf ⟨(c :: r).toArray⟩ = none := by
  rw [c_minus h1, r_empty h2]; rfl
theorem num_minus_bad {c : Nat} {r : List Nat} (h1 : ((⟨#[c]⟩ : Str) == Str.ofString "-") = true) (h2 : digVal r 0 = none) : numOf ⟨(c :: r).toArray⟩ = none := by
  rw [c_minus h1]
  show (if (45 : Nat) = 45 then (if r = [] then none else (digVal r 0).map (fun i => -i)) else digVal (45 :: r) 0) = none
  rw [if_pos rfl, h2]
  split <;> rfl
theorem num_minus {c : Nat} {r : List Nat} {k : Int} (h1 : ((⟨#[c]⟩ : Str) == Str.ofString "-") = true) (h0 : ((⟨r.toArray⟩ : Str) == Str.ofString "") = false) (h2 : digVal r 0 = some k) : numOf ⟨(c :: r).toArray⟩ = some (-k) := by
  rw [c_minus h1]
  show (if (45 : Nat) = 45 then (if r = [] then none else (digVal r 0).map (fun i => -i)) else digVal (45 :: r) 0) = _
  rw [if_pos rfl, if_neg (r_some h0), h2]
  rfl
theorem num_bad {c : Nat} {r : List Nat} (h1 : ((⟨#[c]⟩ : Str) == Str.ofString "-") = false) (h2 : digVal (c :: r) 0 = none) : numOf ⟨(c :: r).toArray⟩ = none := by
  show (if c = 45 then (if r = [] then none else (digVal r 0).map (fun i => -i)) else digVal (c :: r) 0) = _
  rw [if_neg (c_other h1), h2]
theorem num_plain {c : Nat} {r : List Nat} {k : Int} (h1 : ((⟨#[c]⟩ : Str) == Str.ofString "-") = false) (h2 : digVal (c :: r) 0 = some k) : numOf ⟨(c :: r).toArray⟩ = some k := by
  show (if c = 45 then (if r = [] then none else (digVal r 0).map (fun i => -i)) else digVal (c :: r) 0) = _
  rw [if_neg (c_other h1), h2]
theorem raised_sub {base G h : Heap} {l : List Env} {e t : Addr} {cls : Value} {vs : List Value} {all news : List (Addr × Obj)} (R : RaisedS base G l e cls t vs all h) (hs : ∀ q ∈ news, q ∈ all) : RaisedS base G l e cls t vs news h := by
  obtain ⟨⟨B, hB, hBG, hl, r⟩, ht⟩ := R
  exact ⟨⟨B, hB, hBG, fun q hq => hl q (hs q hq), r⟩, ht⟩
theorem mem_left {news own : List (Addr × Obj)} : ∀ q ∈ news, q ∈ news ++ own := fun _ h => List.mem_append_left _ h
theorem bool_two {b : Bool} (h1 : b = true) (h2 : b = false) : False := by rw [h1] at h2; cases h2
section
local macro_rules | `(tactic| walk_at "compareOp Eq str str") => `(tactic| simp only [head_slice])
local macro_rules | `(tactic| walk_at "storeName") => `(tactic| simp only [tail_slice])
local macro_rules | `(tactic| walk_at "subscriptTail Name Constant str int") => `(tactic| (refine item_zero ?_ (by with_unfolding_all rfl) (by intro _; with_unfolding_all rfl)))
theorem now_spec {prog : Program} {w : World} {p : Program} {loose : List Str} {mean : ExcName → Option Value} {mg mb : Str → Option Value} {wd : Str} {tw : Tok} (hw : wd.length ≤ 8)
    {dp un : Nat} {gd : Option (List Code)} {cn : Str} {cs : Scope} {a : Addr} {ccd : Value} {cl : List (Str × Addr)} {outer : List Env} {A₀ : Around} {base h₀ : Heap} {L : Addr} {m : Str → Option Value} {news : List (Addr × Obj)} {s : Shared} {Q E : Value → Shared → Prop}
    (B : Below A₀ base outer h₀) (F : Fr h₀ L s.heap m) (X : (hd.heap_39 w.params).In h₀) (N : News h₀ L s.heap news) (T : Top p loose mean mg mb h₀) (hk : cs.kind = .function) (hd1 : dp + 1 < recursionLimit) (hu : un + 8 < cLine)
    (hret : ∀ i t h' tk', numOf wd = some i → Fr h₀ L h' m → News h₀ L h' news → Q (.int i t) { s with heap := h', toks := tk' })
    (hexc : ∀ G e t vs h' tk', numOf wd = none → Fr h₀ L G m → RaisedS base G (envX cn cs L a ccd cl :: outer) e (.ref 24) t vs news h' → G.UpToSlots h' → E (.ref e) { s with heap := h', toks := tk' }) :
    wpAny (model prog w) (ktrTop dp un gd cn cs L a ccd cl outer) (call (.ref 41) [.str wd tw]) Q E s := by
  k_with_none
  k_with "pyIter str" => k_state (fun pre number => digVal (pre.map Int.toNat) 0 = some number) "number"
  k_with "state" => first | exact now_start | exact now_turn (by assumption) (by assumption)
  have kd : KtsDicts [] h₀ := ktsDicts_nil
  refine wpAny_call ?_
  k_dflt ktr_enter
  obtain ⟨l, rfl⟩ : ∃ l : List Nat, wd = ⟨l.toArray⟩ := ⟨_, str_eta wd⟩
  cases l with
  | nil =>
    k_steps
    all_goals first
      | exact hexc _ _ _ _ _ _ num_nil (by assumption) (by assumption) (by assumption)
  | cons c r => 
    k_steps
    all_goals first
      | exact hexc _ _ _ _ _ _ (num_empty (by assumption) (by assumption)) (by assumption) (by assumption) (by assumption)
      | exact hexc _ _ _ _ _ _ (num_minus_bad (by assumption) (now_bad (by assumption) (by assumption) (by assumption))) (by assumption) (raised_sub (by assumption) mem_left) (by assumption)
      | exact hexc _ _ _ _ _ _ (num_bad (by assumption) (now_bad (by assumption) (by assumption) (by assumption))) (by assumption) (raised_sub (by assumption) mem_left) (by assumption)
      | exact hret _ _ _ _ (num_minus (by assumption) (by assumption) (now_end (by assumption))) (by assumption) (by assumption)
      | exact hret _ _ _ _ (num_plain (by assumption) (now_end (by assumption))) (by assumption) (by assumption)
      | exact (bool_two (by assumption) (by assumption)).elim
      | exact absurd (r_empty (by assumption)) (by simp)
end
end Mine
end

section
open PySem PySem.W PySem.Calls PySem.Spec PyProof.Rows
set_option maxRecDepth 100000
set_option maxHeartbeats 1000000
set_option pp.deepTerms false
set_option pp.maxSteps 1500
namespace Mine
theorem fill2 : (∀ (w : World) (h : Heap), (hd.heap_39 w.params).In h → PySem.Challenge.rw_pd_verdict_1_01.foot = 9) := by k_fill; intros; rfl
theorem one_at {α : Type} {v v' : α} {i : Nat} (h : [v'][i]? = some v) : i = 0 ∧ v' = v := by
  cases i with
  | zero => exact ⟨rfl, Option.some.inj h⟩
  | succ i => cases h
theorem int_at {vs : List Value} {ns : List Int} {i : Nat} {v : Value} (hi : IntsAre vs ns) (h : vs[i]? = some v) : ∃ k t, v = .int k t ∧ ns.take (i + 1) = ns.take i ++ [k] ∧ k ∈ ns := by
  have hlt : i < ns.length := by rw [← hi.length]; exact (List.getElem?_eq_some_iff.mp h).1
  obtain ⟨t, hx⟩ := hi.get i (ns[i]'hlt) (List.getElem?_eq_getElem hlt)
  rw [hx] at h
  exact ⟨_, t, (Option.some.inj h).symm, by rw [List.take_add_one, List.getElem?_eq_getElem hlt] <;> rfl, List.getElem_mem hlt⟩
theorem lit_zero {n k : Int} {ns : List Int} (hm : k ∈ ns) (h : k = 0) : false = lawful n ns := by
  refine Eq.symm (Bool.eq_false_iff.mpr fun q => ?_)
  have := of_decide_eq_true (List.all_eq_true.mp q k hm)
  exact this.1 h
theorem lit_far {n k : Int} {ns : List Int} (hm : k ∈ ns) (h : n < if k < 0 then -k else k) : false = lawful n ns := by
  refine Eq.symm (Bool.eq_false_iff.mpr fun q => ?_)
  have := of_decide_eq_true (List.all_eq_true.mp q k hm)
  split at h <;> omega
theorem lit_next {n k : Int} {ns : List Int} {i : Nat} (hp : lawful n (ns.take i) = true) (ht : ns.take (i + 1) = ns.take i ++ [k]) (h0 : k ≠ 0) (h1 : ¬ n < if k < 0 then -k else k) : lawful n (ns.take (i + 1)) = true := by
  rw [ht]
  unfold lawful at hp ⊢
  rw [List.all_append, hp, Bool.true_and]
  simp only [List.all_cons, List.all_nil, Bool.and_true]
  refine decide_eq_true ⟨h0, ?_⟩
  split at h1 <;> omega
theorem rl_off0 {x : Str} {v : Value} {u m₀ : Str → Option Value} : ∀ z, z ≠ x → (∀ p ∈ ([] : List (Str × Value)), z ≠ p.1) → ([] : List Str).contains z = false → (if z = x then some v else kstB (fun z => if ([] : List Str).contains z then u z else m₀ z) [] z) = m₀ z := by
  intro z hz _ _
  rw [if_neg hz]
  rfl
theorem rl_off1 {x y : Str} {v : Value} {u u' u'' m₀ : Str → Option Value} : ∀ z, z ≠ x → (∀ p ∈ ([] : List (Str × Value)), z ≠ p.1) → [y].contains z = false →
    (if z = y then u z else kstB (fun z => if ([] : List Str).contains z then u' z else (if z = x then some v else kstB (fun z => if [y].contains z then u'' z else m₀ z) [] z)) [] z) = m₀ z := by
  intro z hz _ hy
  have hy' : z ≠ y := by
    rintro rfl
    simp at hy
  rw [if_neg hy']
  show (if z = x then some v else (if [y].contains z then u'' z else m₀ z)) = m₀ z
  rw [if_neg hz, hy]
  rfl
theorem mem_left2 {news a b : List (Addr × Obj)} : ∀ q ∈ news, q ∈ (news ++ a) ++ b := fun _ h => List.mem_append_left _ (List.mem_append_left _ h)
section
local macro_rules | `(tactic| walk_at "pyIter ref") => `(tactic| k_extra "pyIter ref")
local macro_rules | `(tactic| walk_at "exec For Name Name cons nil") => `(tactic| (k_here; (rename Fr _ _ _ _ => lF'); (with_unfolding_all refine' For_invVF lF' ?k1 ?k2 ?_; (case k1 => exact rfl); (case k2 => exact rfl); k_whole)))
local macro_rules | `(tactic| walk_at "RlEnd") => `(tactic| ((with_reducible show RlEnd _ _ _ _ _ _ _ _ _ _ _ _ (Flow.ret _) _); dsimp only [RlEnd]))
theorem isf_spec {prog : Program} {w : World} {p : Program} {loose : List Str} {mean : ExcName → Option Value} {mg mb : Str → Option Value} {cc D : Addr} {kc kd : Nat} {vs : List Value} {ns : List Int} {n : Int} {tn : Tok}
    {dp un : Nat} {gd : Option (List Code)} {cn : Str} {cs : Scope} {a : Addr} {ccd : Value} {cl : List (Str × Addr)} {outer : List Env} {A₀ : Around} {base h₀ : Heap} {L : Addr} {m : Str → Option Value} {news : List (Addr × Obj)} {s : Shared} {Q E : Value → Shared → Prop}
    (B : Below A₀ base outer h₀) (F : Fr h₀ L s.heap m) (X : (hd.heap_39 w.params).In h₀) (N : News h₀ L s.heap news) (T : Top p loose mean mg mb h₀) (hk : cs.kind = .function) (hd1 : dp + 1 < recursionLimit) (hu : un + 8 < cLine)
    (hcc : (cc, listOf [Value.ref D].toArray kc) ∈ news) (hD : (D, listOf vs.toArray kd) ∈ news) (hi : IntsAre vs ns)
    (hret : ∀ b h' tk', b = lawful n ns → Fr h₀ L h' m → News h₀ L h' news → Q (.bool b) { s with heap := h', toks := tk' }) :
    wpAny (model prog w) (ktrTop dp un gd cn cs L a ccd cl outer) (call (.ref 34) [.ref cc, .int n tn]) Q E s := by
  k_with_none
  k_with "pyIter ref" => ((with_reducible show wpAny _ _ (pyIter _) (fun it s₂ => LoopAtV _ _ _ _ _ (Str.ofString "lit") _ _ _ it s₂) _ _); refine' read_loop (fun _ : Unit => []) [] (fun i _ => lawful n (ns.take i) = true) () ?hh9 (vs := vs) ?hl9 ?hF9 ?hN9 ?hk9 ?hp9 ?turn9 ?done9; (case hh9 => rfl); (case hF9 => k_asm); (case hN9 => k_asm); (case hl9 => first | exact hD | exact List.mem_append_left _ hD); (case hk9 => exact List.forall_mem_nil _); (case hp9 => rfl); (case' turn9 => (intro c9 i9 v9 u9 h9 tk9 own9 hv9 ho9 hp9 F9 N9; obtain ⟨k9, t9, e9, ht9, hm9⟩ := int_at hi hv9; subst e9)); (case' done9 => (intro c9 u9 h9 tk9 hp9 F9 N9)))
  k_with "pyIter ref" => ((with_reducible show wpAny _ _ (pyIter _) (fun it s₂ => LoopAtV _ _ _ _ _ (Str.ofString "clause") _ _ _ it s₂) _ _); refine' read_loop (fun _ : Unit => []) [Str.ofString "lit"] (fun i _ => 0 < i → lawful n ns = true) () ?hh8 (vs := [Value.ref D]) ?hl8 ?hF8 ?hN8 ?hk8 ?hp8 ?turn8 ?done8; (case hh8 => rfl); (case hF8 => k_asm); (case hN8 => k_asm); (case hl8 => exact hcc); (case hk8 => exact List.forall_mem_nil _); (case hp8 => exact fun h => absurd h (Nat.lt_irrefl _)); (case' turn8 => (intro c8 i8 v8 u8 h8 tk8 own8 hv8 ho8 hp8 F8 N8; obtain ⟨e8, e8'⟩ := one_at hv8; subst e8; subst e8')); (case' done8 => (intro c8 u8 h8 tk8 hp8 F8 N8)))
  refine wpAny_call ?_
  k_dflt ktr_enter
  k_steps
  · exact hret _ _ _ (hp8 (Nat.zero_lt_succ _)).symm (by assumption) (by assumption)
  · refine ⟨_, _, _, _, (), rfl, F9, N9, fun _ h => h, List.forall_mem_nil _, rl_off1, fun _ => ?_⟩
    rw [hi.length, List.take_length] at hp9
    exact hp9
  · exact hret _ _ _ (lit_zero hm9 (by assumption)) (by assumption) (cb_drop (by assumption) mem_left2)
  · exact hret _ _ _ (lit_far hm9 (by assumption)) (by assumption) (cb_drop (by assumption) mem_left2)
  · exact ⟨_, _, _, _, (), rfl, F9, N9, fun _ h => h, List.forall_mem_nil _, rl_off0, lit_next hp9 ht9 (by assumption) (by assumption)⟩
end
end Mine
end

section
open PySem PySem.W PySem.Calls PySem.Spec PyProof.Rows
set_option maxRecDepth 100000
set_option maxHeartbeats 1000000
set_option pp.deepTerms false
set_option pp.maxSteps 1500
namespace Mine
theorem fill3 : (∀ (w : World) (h : Heap), (hd.heap_39 w.params).In h → PySem.Challenge.rw_pd_verdict_1_01.foot = 9) := by k_fill; intros; rfl
section
variable {prog : Program} {w : World} {A : Around} {E : Value → Shared → Prop} {s : Shared} {h₀ : Heap} {L : Addr} {news : List (Addr × Obj)}
/-- the last item of a list of the ledger -/
theorem item_last {value slice : Expr} {l : Addr} {ys : List Value} {nn : Nat} {v : Value} {u : Tok} {Q : Value → Shared → Prop} (N : News h₀ L s.heap news) (hm : (l, listOf ys.toArray nn) ∈ news) (hx : ys[ys.length - 1]? = some v) (h : Q v s)
    (hs : subscripted slice false (.ref l) (.int (-1) u) = operate [.ref l, .int (-1) u] (getItem (.ref l) (.int (-1) u))) : wpAny (model prog w) A (subscriptTail value slice (.ref l) (.int (-1) u)) Q E s := by
  have hl : s.heap.IsList l ys.toArray := ⟨_, (N _ hm).1, rfl, nn, rfl⟩
  have hlt : ys.length - 1 < ys.length := (List.getElem?_eq_some_iff.mp hx).1
  refine tail_any hl.typeIs slot_list_getitem.lookup (wpAny_getItem_list_neg hl (by decide) (by rw [List.size_toArray]; omega) (by decide) ?_ h) hs
  rw [List.size_toArray]
  have e : ((-1 : Int) + (ys.length : Int)).toNat = ys.length - 1 := by omega
  rw [e]
  simpa using hx
end
theorem int_last {ys : List Value} {ns : List Int} (hi : IntsAre ys ns) (hne : 0 < ys.length) : ∃ q t, ys[ys.length - 1]? = some (.int q t) ∧ ns.getLast? = some q := by
  have hl := hi.length
  have hlt : ns.length - 1 < ns.length := by omega
  obtain ⟨t, hx⟩ := hi.get (ns.length - 1) (ns[ns.length - 1]'hlt) (List.getElem?_eq_getElem hlt)
  refine ⟨_, t, by rw [hl]; exact hx, ?_⟩
  rw [List.getLast?_eq_getElem?, List.getElem?_eq_getElem hlt]
theorem last_getD {ns : List Int} (h : 0 < ns.length) : ns.getLast? = some (ns.getD (-1 + (ns.length : Int)).toNat 0) := by
  have e : (-1 + (ns.length : Int)).toNat = ns.length - 1 := by omega
  have hlt : ns.length - 1 < ns.length := by omega
  rw [e, List.getLast?_eq_getElem?, List.getElem?_eq_getElem hlt]
  simp [List.getD, hlt]
theorem str_at {l : List (Str × Tok)} {ws : List Str} (e : l.map (·.1) = ws) {i : Nat} {v : Value} (h : (strValues l).toArray[i]? = some v) : ∃ wd tw, v = .str wd tw ∧ ws[i]? = some wd := by
  subst e
  have h' : (l.map fun p => Value.str p.1 p.2)[i]? = some v := by simpa [strValues] using h
  rw [List.getElem?_map] at h'
  cases q : l[i]? with
  | none => rw [q] at h'; cases h'
  | some p =>
    rw [q] at h'
    exact ⟨p.1, p.2, (Option.some.inj h').symm, by rw [List.getElem?_map, q]; rfl⟩
theorem nums_next {ws : List Str} {i : Nat} {wd : Str} {ns : List Int} {k : Int} (hn : nums (ws.take i) = some ns) (hw : ws[i]? = some wd) (h : numOf wd = some k) : nums (ws.take (i + 1)) = some (ns ++ [k]) := by
  have ht : ws.take (i + 1) = ws.take i ++ [wd] := by rw [List.take_add_one, hw]; rfl
  rw [ht]
  rw [nums_map] at hn ⊢
  split at hn
  · rename_i q
    rw [if_pos (by rw [List.map_append, List.all_append, q]; simp [h])]
    cases hn
    simp [List.filterMap_append, h]
  · cases hn
theorem nums_bad {ws : List Str} {i : Nat} {wd : Str} (hw : ws[i]? = some wd) (h : numOf wd = none) : nums ws = none := by
  rw [nums_map, if_neg]
  intro q
  have := List.all_eq_true.mp q (numOf wd) (List.mem_map.mpr ⟨wd, List.mem_of_getElem? hw, rfl⟩)
  rw [h] at this
  cases this
theorem ints_snoc {ys : List Value} {ns : List Int} {k : Int} {t : Tok} (hi : IntsAre ys ns) : IntsAre (ys ++ [.int k t]) (ns ++ [k]) := hi.append (.cons _ _ .nil)
theorem read_none {ws : List Str} {n : Int} (h : nums ws = none) : readW ws n = none := by unfold readW; rw [h]
theorem read_last {ws : List Str} {n q : Int} {ns : List Int} (h : nums ws = some ns) (hq : ns.getLast? = some q) (h0 : q ≠ 0) : readW ws n = none := by
  unfold readW
  rw [h]
  show (if ns.getLast? = some 0 ∧ lawful n ns.dropLast = true then some ns.dropLast else none) = none
  rw [if_neg]
  rintro ⟨h1, _⟩
  rw [hq] at h1
  exact h0 (Option.some.inj h1)
theorem read_bad {ws : List Str} {n : Int} {ns : List Int} (h : nums ws = some ns) (h1 : lawful n (ns.take (ns.length - 1)) = false) : readW ws n = none := by
  unfold readW
  rw [h]
  show (if ns.getLast? = some 0 ∧ lawful n ns.dropLast = true then some ns.dropLast else none) = none
  rw [if_neg]
  rintro ⟨_, h2⟩
  rw [List.dropLast_eq_take, h1] at h2
  cases h2
theorem read_ok {ws : List Str} {n q : Int} {ns : List Int} (h : nums ws = some ns) (hq : ns.getLast? = some q) (h0 : q = 0) (h1 : lawful n (ns.take (ns.length - 1)) = true) : readW ws n = some (ns.take (ns.length - 1)) := by
  unfold readW
  rw [h]
  show (if ns.getLast? = some 0 ∧ lawful n ns.dropLast = true then some ns.dropLast else none) = _
  rw [if_pos ⟨by rw [hq, h0], by rw [List.dropLast_eq_take]; exact h1⟩, List.dropLast_eq_take]
section
local macro_rules | `(tactic| walk_at "subscriptTail") => `(tactic| k_extra "subscriptTail")
local macro_rules | `(tactic| walk_at "call ref") => `(tactic| k_extra "call ref")
local macro_rules | `(tactic| walk_at "exec Assign cons ListComp") => `(tactic| k_extra "exec Assign cons ListComp")
local macro_rules | `(tactic| walk_at "call builtin:str.split") => `(tactic| k_extra "call builtin:str.split")
theorem col_spec {prog : Program} {w : World} {p : Program} {loose : List Str} {mean : ExcName → Option Value} {mg mb : Str → Option Value} {line : Str} {tl : Tok} {n : Int} {tn : Tok} (hlen : line.length ≤ 1000) (hws : ∀ x ∈ Txt.split line (Str.ofString " "), x.length ≤ 8)
    {dp un : Nat} {gd : Option (List Code)} {cn : Str} {cs : Scope} {a : Addr} {ccd : Value} {cl : List (Str × Addr)} {outer : List Env} {A₀ : Around} {base h₀ : Heap} {L : Addr} {m : Str → Option Value} {news : List (Addr × Obj)} {s : Shared} {Q E : Value → Shared → Prop}
    (B : Below A₀ base outer h₀) (F : Fr h₀ L s.heap m) (X : (hd.heap_39 w.params).In h₀) (N : News h₀ L s.heap news) (T : Top p loose mean mg mb h₀) (hk : cs.kind = .function) (hd1 : dp + 2 < recursionLimit) (hu : un + 16 < cLine)
    (hret : ∀ D vs ns k h' tk', readW (Txt.split line (Str.ofString " ")) n = some ns → IntsAre vs ns → Fr h₀ L h' m → News h₀ L h' ((D, listOf vs.toArray k) :: news) → Q (.ref D) { s with heap := h', toks := tk' })
    (hexc : ∀ G e t vs h' tk', readW (Txt.split line (Str.ofString " ")) n = none → Fr h₀ L G m → RaisedS base G (envX cn cs L a ccd cl :: outer) e (.ref 24) t vs news h' → G.UpToSlots h' → E (.ref e) { s with heap := h', toks := tk' }) :
    wpAny (model prog w) (ktrTop dp un gd cn cs L a ccd cl outer) (call (.ref 46) [.str line tl, .int n tn]) Q E s := by
  k_with_none
  have kd : KtsDicts [] h₀ := ktsDicts_nil
  have hsz : line.length + 2 ≤ sizeLine := by rw [sizeLine_eq]; omega
  k_with "call builtin:str.split" => (refine KSpl.split1 (by k_asm) (by k_asm) (by decide +kernel) ?_ hsz; intro D7 l7 h7 k7 e7 a7 F7 N7 l1)
  k_with "exec Assign cons ListComp" => (k_dflt (refine' assign_comp (cls := .ref 24) (J := fun i ys => ∃ ns, IntsAre ys ns ∧ nums ((Txt.split line (Str.ofString " ")).take i) = some ns) (Bad := nums (Txt.split line (Str.ofString " ")) = none) ?hF7 ?hA7 ?hK7 ?hsw7 ?hfree7 ?hcell7 ?hkind7 ?hnames7 ?hx7 ?hrel7 ?hy7 ?hk7 ?hs7 ?_; (case hF7 => k_asm); (case hA7 => exact rfl); (case hK7 => assumption); (case hsw7 => with_unfolding_all rfl); (case hfree7 => decide); (case hcell7 => decide); (case hkind7 => rfl); (case hnames7 => decide); (case hx7 => rfl); (case hrel7 => rfl); (case hy7 => rfl); (case hk7 => rfl); (case hs7 => intro _; rfl)))
  refine wpAny_call ?_
  k_dflt ktr_enter
  k_steps
  have hlen7 : l7.length = (Txt.split line (Str.ofString " ")).length := by rw [← e7, List.length_map]
  refine ⟨D7, _, 0, _, rfl, rfl, F7, N7, List.mem_cons_self, ?_, ⟨[], .nil, rfl⟩, ?_, ?_, ?_⟩
  · have := split_weight line (Str.ofString " ") (by decide +kernel)
    have e : (strValues l7).toArray.size = l7.length := by simp [strValues]
    rw [e, hlen7]
    omega
  · intro i v ys I oI C oC D mC h tk hv hJ hoC hx F9 N9 off ne
    obtain ⟨ns, hi, hn⟩ := hJ
    obtain ⟨wd, tw, rfl, hwd⟩ := str_at e7 hv
    have hw8 := hws wd (List.mem_of_getElem? hwd)
    k_with "call ref" => (k_dflt (refine' now_spec hw8 ?B6 ?F6 ?X6 ?N6 ?T6 ?hk6 ?hd6 ?hu6 ?hr6 ?he6; (case B6 => k_asm); (case F6 => k_asm); (case X6 => k_asm); (case N6 => k_asm); (case T6 => k_asm); (case hk6 => rfl); (case hd6 => ktr_room); (case hu6 => ktr_units); (case hr6 => (intro k6 t6 h6 tk6 e6 F6 N6; exact ⟨_, _, rfl, F6, N6, _, ints_snoc hi, nums_next hn hwd e6⟩)); (case he6 => (intro G6 ea6 t6 vs6 h6 tk6 e6 F6 R6 U6; exact ⟨_, _, _, _, _, _, rfl, rfl, F6, R6, U6, nums_bad hwd e6⟩))))
    k_steps
  · intro ys D h tk hJ hyl F9 N9 off1
    obtain ⟨ns, hi, hn⟩ := hJ
    have hsz9 : ys.length = (Txt.split line (Str.ofString " ")).length := by rw [hyl, List.size_toArray, ← hlen7]; simp [strValues]
    have hpos : 0 < ns.length := by rw [← hi.length, hsz9]; exact List.length_pos_iff.mpr (split_ne _ _)
    rw [← hyl, hsz9, List.take_length] at hn
    have hq := last_getD hpos
    have hll : ns.length ≤ 1001 := by
      have := split_weight line (Str.ofString " ") (by decide +kernel)
      rw [← hi.length, hsz9]
      omega
    k_with "call ref" => (k_dflt (refine' isf_spec ?B5 ?F5 ?X5 ?N5 ?T5 ?hk5 ?hd5 ?hu5 ?hc5 ?hD5 ?hi5 ?hr5; (case B5 => k_asm); (case F5 => k_asm); (case X5 => k_asm); (case N5 => k_asm); (case T5 => k_asm); (case hk5 => rfl); (case hd5 => ktr_room); (case hu5 => ktr_units); (case hc5 => k_mem); (case hD5 => k_mem); (case hi5 => assumption); (case' hr5 => (intro b6 h6 tk6 e6 F6 N6))))
    k_steps
    · exact hexc _ _ _ _ _ _ (read_last hn hq (by assumption)) (by assumption) (raised_sub (by assumption) fun q hq => List.mem_cons_of_mem _ (List.mem_cons_of_mem _ hq)) (by assumption)
    · exact hret _ _ _ _ _ _ (read_ok hn hq (by assumption) (e6.symm.trans (by assumption))) (by assumption) (by assumption) (cb_drop (by assumption) fun q hq => by
        rcases List.mem_cons.mp hq with rfl | hq
        · k_mem
        · exact List.mem_cons_of_mem _ (List.mem_cons_of_mem _ (List.mem_cons_of_mem _ (List.mem_cons_of_mem _ hq))))
    · exact hexc _ _ _ _ _ _ (read_bad hn (e6.symm.trans (by assumption))) (by assumption) (raised_sub (by assumption) fun q hq => List.mem_cons_of_mem _ (List.mem_cons_of_mem _ (List.mem_cons_of_mem _ (List.mem_cons_of_mem _ hq)))) (by assumption)
  · intro G e t vs h tk bad FG R U
    k_steps
    exact hexc _ _ _ _ _ _ (read_none bad) (by assumption) (raised_sub (by assumption) fun q hq => List.mem_cons_of_mem _ hq) (by assumption)
end
end Mine
end

section
open PySem PySem.W PySem.Calls PySem.Spec PyProof.Rows
set_option maxRecDepth 100000
set_option maxHeartbeats 1000000
set_option pp.deepTerms false
set_option pp.maxSteps 1500
namespace Mine
theorem fill4 : (∀ (w : World) (h : Heap), (hd.heap_39 w.params).In h → PySem.Challenge.rw_pd_verdict_1_01.foot = 9) := by k_fill; intros; rfl
section
local macro_rules | `(tactic| walk_at "call ref") => `(tactic| k_extra "call ref")
theorem read_spec {prog : Program} {w : World} {p : Program} {loose : List Str} {mean : ExcName → Option Value} {mg mb : Str → Option Value} {line : Str} {tl : Tok} {n : Int} {tn : Tok} (hlen : line.length ≤ 1000) (hws : ∀ x ∈ Txt.split line (Str.ofString " "), x.length ≤ 8)
    {dp un : Nat} {gd : Option (List Code)} {cn : Str} {cs : Scope} {a : Addr} {ccd : Value} {A₀ : Around} {base h₀ : Heap} {L : Addr} {m : Str → Option Value} {news : List (Addr × Obj)} {s : Shared} {Q E : Value → Shared → Prop}
    (B : Below A₀ base [] h₀) (F : Fr h₀ L s.heap m) (X : (hd.heap_39 w.params).In h₀) (N : News h₀ L s.heap news) (T : Top p loose mean mg mb h₀) (XB : (hd.heap_39 w.params).In base) (TB : Top p loose mean mg mb base) (hk : cs.kind = .function) (hd1 : dp + 3 < recursionLimit) (hu : un + 24 < cLine)
    (hlist : ∀ D vs ns k h' tk', readW (Txt.split line (Str.ofString " ")) n = some ns → IntsAre vs ns → Fr h₀ L h' m → News h₀ L h' ((D, listOf vs.toArray k) :: news) → Q (.ref D) { s with heap := h', toks := tk' })
    (href : ∀ t h' tk', readW (Txt.split line (Str.ofString " ")) n = none → Fr h₀ L h' m → News h₀ L h' news → Q (.str (Str.ofString "refused") t) { s with heap := h', toks := tk' }) :
    wpAny (model prog w) (ktrTop dp un gd cn cs L a ccd [] []) (call (.ref 96) [.str line tl, .int n tn]) Q E s := by
  k_with_none
  k_with "call ref" => (k_dflt (refine' col_spec hlen hws ?B5 ?F5 ?X5 ?N5 ?T5 ?hk5 ?hd5 ?hu5 ?hr5 ?he5; (case B5 => k_asm); (case F5 => k_asm); (case X5 => k_asm); (case N5 => k_asm); (case T5 => k_asm); (case hk5 => rfl); (case hd5 => ktr_room); (case hu5 => ktr_units); (case' hr5 => (intro D6 vs6 ns6 k6 h6 tk6 e6 i6 F6 N6)); (case' he5 => (intro G6 e6 t6 vs6 h6 tk6 b6 F6 R6 U6))))
  refine wpAny_call ?_
  k_dflt (refine' code_defS0 ?k1 ?k2 ?k3 ?k4 ?k5 ?kA ?k6 ?k7 ?k8 ?k9 ?kB ?_ ?cK ?c2 ?c3 ?c4 ?c5; (case kA => exact rfl); (case k2 => k_asm); (case k1 => k_asm); (case k3 => k_asm); (case k4 => k_asm); (case k5 => k_asm); (case k6 => k_is); (case k7 => k_is); (case k8 => ktr_room); (case k9 => exact BindsTo.of_eq rfl); (case kB => exact locs rfl); (case cK => exact hk); (case c2 => exact rfl); (case c3 => exact rfl); (case c4 => exact rfl); (case c5 => decide); k_whole; intro g' L' h' FG' F' N' B' X' T' D'; (try dsimp only); (try k_lift B'); (try k_fold))
  k_steps
  · exact href _ _ _ b6 (by assumption) (by assumption)
  · exact hlist _ _ _ _ _ _ e6 i6 (by assumption) (by assumption)
end
end Mine
end

section
open PySem PySem.W PySem.Calls PySem.Spec PyProof.Rows
set_option maxRecDepth 100000
set_option maxHeartbeats 1000000
set_option pp.deepTerms false
set_option pp.maxSteps 1500
namespace Mine
theorem fill5 : (∀ (w : World) (h : Heap), (hd.heap_39 w.params).In h → PySem.Challenge.rw_pd_verdict_1_01.foot = 9) := by k_fill; intros; rfl
/-- a worth as a value: None or an int -/
inductive OptIs : Value → Option Int → Prop
  | none : OptIs .none none
  | some (i : Int) (t : Tok) : OptIs (.int i t) (some i)
inductive OptsAre : List Value → List (Option Int) → Prop
  | nil : OptsAre [] []
  | cons {v : Value} {o : Option Int} {vs : List Value} {os : List (Option Int)} : OptIs v o → OptsAre vs os → OptsAre (v :: vs) (o :: os)
theorem OptsAre.length {vs : List Value} {os : List (Option Int)} (h : OptsAre vs os) : vs.length = os.length := by
  induction h with
  | nil => rfl
  | cons _ _ ih => rw [List.length_cons, List.length_cons, ih]
theorem OptsAre.get {vs : List Value} {os : List (Option Int)} (h : OptsAre vs os) : ∀ {i : Nat} {v : Value}, vs[i]? = some v → ∃ o, os[i]? = some o ∧ OptIs v o := by
  induction h with
  | nil => intro i v e; cases e
  | cons hv _ ih =>
    intro i v e
    cases i with
    | zero => cases e; exact ⟨_, rfl, hv⟩
    | succ i => exact ih e
theorem OptsAre.snoc {vs : List Value} {os : List (Option Int)} {v : Value} {o : Option Int} (h : OptsAre vs os) (hv : OptIs v o) : OptsAre (vs ++ [v]) (os ++ [o]) := by
  induction h with
  | nil => exact .cons hv .nil
  | cons h1 _ ih => exact .cons h1 ih
theorem OptsAre.dropLast {vs : List Value} {os : List (Option Int)} (h : OptsAre vs os) : OptsAre vs.dropLast os.dropLast := by
  induction h with
  | nil => exact .nil
  | cons h1 h2 ih =>
    cases h2 with
    | nil => exact .nil
    | cons h3 h4 => exact .cons h1 ih
theorem OptsAre.last {vs : List Value} {os : List (Option Int)} (h : OptsAre vs os) (hne : os ≠ []) : ∃ v o, vs[vs.length - 1]? = some v ∧ os.getLast? = some o ∧ OptIs v o := by
  have hp : 0 < os.length := List.length_pos_iff.mpr hne
  have hl := h.length
  have hlt : vs.length - 1 < vs.length := by omega
  obtain ⟨o, ho, hv⟩ := h.get (List.getElem?_eq_getElem hlt)
  exact ⟨_, o, List.getElem?_eq_getElem hlt, by rw [List.getLast?_eq_getElem?, ← hl]; exact ho, hv⟩
theorem OptsAre.ints {vs : List Value} {os : List (Option Int)} (h : OptsAre vs os) {n : Int} : os.all (okOpt n) = true → IntsAre vs (os.filterMap fun o => o) := by
  induction h with
  | nil => intro _; exact .nil
  | cons h1 _ ih =>
    intro q
    simp only [List.all_cons, Bool.and_eq_true] at q
    cases h1 with
    | none => simp [okOpt] at q
    | some i t => exact .cons i t (ih q.2)
theorem pick_init (vs : List Value) : (slicePick vs.toArray none (some (-1)) none).toList = vs.dropLast := by
  have e : sliceBounds none (some (-1)) none vs.toArray.size = (((0 : Nat) : Int), ((vs.toArray.size - 1 : Nat) : Int), 1) := by
    simp only [sliceBounds, Option.getD_none, show (1 : Int) > 0 by decide, if_true, if_pos (show (-1 : Int) < 0 by decide)]
    congr 1
    congr 1
    omega
  rw [kmk_pick_nat _ e]
  show ((vs.drop 0).take (vs.toArray.size - 1 - 0)) = _
  rw [List.drop_zero, Nat.sub_zero, List.size_toArray, List.dropLast_eq_take]
theorem due_last {os : List (Option Int)} {n : Int} {o : Option Int} (h : os.getLast? = some o) (h0 : o ≠ some 0) : due os n = none := by
  unfold due
  rw [if_neg]
  rintro ⟨h1, _⟩
  rw [h] at h1
  exact h0 (Option.some.inj h1)
theorem due_bad {os : List (Option Int)} {n : Int} {o : Option Int} {i : Nat} (h : os.dropLast[i]? = some o) (h0 : okOpt n o = false) : due os n = none := by
  unfold due
  rw [if_neg]
  rintro ⟨_, h1⟩
  have := List.all_eq_true.mp h1 o (List.mem_of_getElem? h)
  rw [h0] at this
  cases this
theorem due_ok {os : List (Option Int)} {n : Int} (h : os.getLast? = some (some 0)) (h1 : os.dropLast.all (okOpt n) = true) : due os n = some (os.dropLast.filterMap fun o => o) := by
  unfold due
  rw [if_pos ⟨h, h1⟩]
theorem ok_zero {n k : Int} (h : k = 0) : okOpt n (some k) = false := decide_eq_false fun q => q.1 h
theorem ok_high {n k : Int} (h : n < k) : okOpt n (some k) = false := decide_eq_false fun q => by omega
theorem ok_low {n k : Int} (h : k < -n) : okOpt n (some k) = false := decide_eq_false fun q => by omega
theorem all_next {os : List (Option Int)} {n k : Int} {i : Nat} (h : (os.take i).all (okOpt n) = true) (ho : os[i]? = some (some k)) (h0 : k ≠ 0) (h1 : ¬ n < k) (h2 : ¬ k < -n) : (os.take (i + 1)).all (okOpt n) = true := by
  have ht : os.take (i + 1) = os.take i ++ [some k] := by rw [List.take_add_one, ho]; rfl
  rw [ht, List.all_append, h]
  simp only [List.all_cons, List.all_nil, Bool.and_true, Bool.true_and]
  exact decide_eq_true ⟨h0, by omega, by omega⟩
theorem some_ne {i : Int} (h : i ≠ 0) : some i ≠ some 0 := fun q => h (Option.some.inj q)
theorem mem_tail_left {q : Addr × Obj} {news own : List (Addr × Obj)} : ∀ x ∈ news, x ∈ (q :: news) ++ own := fun _ h => List.mem_append_left _ (List.mem_cons_of_mem _ h)
section
local macro_rules | `(tactic| walk_at "pyIter ref") => `(tactic| k_extra "pyIter ref")
local macro_rules | `(tactic| walk_at "exec For Name Subscript cons nil") => `(tactic| (k_here; (rename Fr _ _ _ _ => lF'); (with_unfolding_all refine' For_invVF lF' ?k1 ?k2 ?_; (case k1 => exact rfl); (case k2 => exact rfl); k_whole)))
local macro_rules | `(tactic| walk_at "RlEnd") => `(tactic| ((with_reducible show RlEnd _ _ _ _ _ _ _ _ _ _ _ _ (Flow.ret _) _); dsimp only [RlEnd]))
local macro_rules | `(tactic| walk_at "subscriptTail Name UnaryOp ref int") => `(tactic| k_extra "last item")
local macro_rules | `(tactic| walk_at "subscriptTail Name Slice ref ref") => `(tactic| k_extra "all but the last")
theorem due_spec {prog : Program} {w : World} {p : Program} {loose : List Str} {mean : ExcName → Option Value} {mg mb : Str → Option Value} {l : Addr} {kl : Nat} {vs : List Value} {os : List (Option Int)} {n : Int} {tn : Tok}
    {dp un : Nat} {gd : Option (List Code)} {cn : Str} {cs : Scope} {a : Addr} {ccd : Value} {cl : List (Str × Addr)} {outer : List Env} {A₀ : Around} {base h₀ : Heap} {L : Addr} {m : Str → Option Value} {news : List (Addr × Obj)} {s : Shared} {Q E : Value → Shared → Prop}
    (B : Below A₀ base outer h₀) (F : Fr h₀ L s.heap m) (X : (hd.heap_39 w.params).In h₀) (N : News h₀ L s.heap news) (T : Top p loose mean mg mb h₀) (hk : cs.kind = .function) (hd1 : dp + 1 < recursionLimit) (hu : un + 8 < cLine)
    (hl : (l, listOf vs.toArray kl) ∈ news) (ho : OptsAre vs os) (hne : os ≠ []) (hsz : os.length ≤ 100)
    (hlist : ∀ D us ns k h' tk', due os n = some ns → IntsAre us ns → Fr h₀ L h' m → News h₀ L h' ((D, listOf us.toArray k) :: news) → Q (.ref D) { s with heap := h', toks := tk' })
    (href : ∀ t h' tk', due os n = none → Fr h₀ L h' m → News h₀ L h' news → Q (.str (Str.ofString "refused") t) { s with heap := h', toks := tk' }) :
    wpAny (model prog w) (ktrTop dp un gd cn cs L a ccd cl outer) (call (.ref 89) [.ref l, .int n tn]) Q E s := by
  k_with_none
  obtain ⟨v, o, hx, hlast, hvo⟩ := ho.last hne
  have hvs : vs.toArray.size ≤ sizeLine := by rw [List.size_toArray, ho.length, sizeLine_eq]; omega
  k_with "last item" => (refine item_last (by k_asm) hl hx ?_ (by with_unfolding_all rfl))
  k_with "all but the last" => (k_dflt (refine' kmk_slice_lit ?F5 ?N5 ?l5 ?p5 ?q5 (pick_init vs) ?_ ?s5 ?t5 hvs; (case F5 => k_asm); (case N5 => k_asm); (case l5 => first | exact News.isList (by k_asm) hl | exact News.isList (by k_asm) (List.mem_cons_of_mem _ hl)); (case p5 => kmk_part); (case q5 => kmk_part); (case s5 => with_unfolding_all rfl); (case t5 => kmk_pure)); intro D5 h5 F5 N5 l5)
  k_with "pyIter ref" => (refine' read_loop (fun _ : Unit => []) [] (fun i _ => (os.dropLast.take i).all (okOpt n) = true) () ?hh9 (vs := vs.dropLast) ?hl9 ?hF9 ?hN9 ?hk9 ?hp9 ?turn9 ?done9; (case hh9 => rfl); (case hF9 => k_asm); (case hN9 => k_asm); (case hl9 => exact List.mem_cons_self); (case hk9 => exact List.forall_mem_nil _); (case hp9 => rfl); (case' turn9 => (intro c9 i9 v9 u9 h9 tk9 own9 hv9 ho9 hp9 F9 N9; obtain ⟨o9, e9, hov9⟩ := ho.dropLast.get hv9; cases hov9)); (case' done9 => (intro c9 u9 h9 tk9 hp9 F9 N9)))
  refine wpAny_call ?_
  k_dflt ktr_enter
  cases hvo
  all_goals k_steps
  · exact href _ _ _ (due_last hlast (by simp)) (by assumption) (by assumption)
  · exact href _ _ _ (due_last hlast (some_ne (by assumption))) (by assumption) (by assumption)
  · rw [ho.dropLast.length, List.take_length] at hp9
    refine hlist _ _ _ 0 _ _ (due_ok (hlast.trans ?_) hp9) (ho.dropLast.ints hp9) (by assumption) (cb_drop (by assumption) ?_)
    · exact congrArg (fun x => some (some x)) (by assumption)
    · intro q hq
      rcases List.mem_cons.mp hq with rfl | hq
      · exact List.mem_cons_self
      · exact List.mem_cons_of_mem _ (List.mem_cons_of_mem _ hq)
  · exact href _ _ _ (due_bad e9 rfl) (by assumption) (cb_drop (by assumption) mem_tail_left)
  · exact href _ _ _ (due_bad e9 (ok_zero (by assumption))) (by assumption) (cb_drop (by assumption) mem_tail_left)
  · exact href _ _ _ (due_bad e9 (ok_high (by assumption))) (by assumption) (cb_drop (by assumption) mem_tail_left)
  · exact href _ _ _ (due_bad e9 (ok_low (by assumption))) (by assumption) (cb_drop (by assumption) mem_tail_left)
  · exact ⟨_, _, _, _, (), rfl, F9, N9, fun _ h => h, List.forall_mem_nil _, rl_off0, all_next hp9 e9 (by assumption) (by assumption) (by assumption)⟩
end
end Mine
end

section
open PySem PySem.W PySem.Calls PySem.Spec PyProof.Rows
set_option maxRecDepth 100000
set_option maxHeartbeats 1000000
set_option pp.deepTerms false
set_option pp.maxSteps 1500
namespace Mine
theorem fill6 : (∀ (w : World) (h : Heap), (hd.heap_39 w.params).In h → PySem.Challenge.rw_pd_verdict_1_01.foot = 9) := by k_fill; intros; rfl
theorem bad_get (k : Nat) : Entry (tBad.getD k Str.empty) none := by
  by_cases h : k < tBad.length
  · have e : tBad.getD k Str.empty = tBad[k] := by simp [List.getD, h]
    rw [e]
    exact bad_ok _ (List.getElem_mem h)
  · have e : tBad.getD k Str.empty = Str.empty := by simp [List.getD, Nat.not_lt.mp h]
    rw [e]
    unfold Entry
    decide +kernel
theorem zero_get {k : Nat} (h : k < 3) : Entry (tZero.getD k Str.empty) (some 0) := by
  have h' : k < tZero.length := h
  have e : tZero.getD k Str.empty = tZero[k] := by simp [List.getD, h']
  rw [e]
  exact zero_ok _ (List.getElem_mem h')
theorem lits_get {x : Str} {i : Int} (h : (x, i) ∈ tLits) : Entry x (some i) := lits_ok _ h
theorem neg_next {n : Int} (h0 : 0 ≤ n) (h1 : n < 13) : Entry (Str.ofString "-" ++ Str.ofString (toString (n + 1))) (some (-n - 1)) := by
  have := negStr_ok (i := n + 1) (by omega) (by omega)
  have e : -(n + 1) = -n - 1 := by omega
  rw [e] at this
  exact this
section
variable {prog : Program} {w : World} {A : Around} {E : Value → Shared → Prop} {s : Shared} {h₀ : Heap} {L : Addr} {news : List (Addr × Obj)}
theorem item_some {value slice : Expr} {l : Addr} {ys : List Value} {nn : Nat} {k : Int} {u : Tok} {Q : Value → Shared → Prop} (N : News h₀ L s.heap news) (hm : (l, listOf ys.toArray nn) ∈ news) (h0 : 0 ≤ k) (h1 : k < ys.length) (h2 : ys.length < 1000) (h : ∀ v ∈ ys, Q v s)
    (hs : subscripted slice false (.ref l) (.int k u) = operate [.ref l, .int k u] (getItem (.ref l) (.int k u))) : wpAny (model prog w) A (subscriptTail value slice (.ref l) (.int k u)) Q E s := by
  have hl : s.heap.IsList l ys.toArray := ⟨_, (N _ hm).1, rfl, nn, rfl⟩
  have hlt : k.toNat < ys.length := by omega
  exact tail_any hl.typeIs slot_list_getitem.lookup (wpAny_getItem_list hl h0 (by omega) (x := ys[k.toNat]) (by simp [hlt]) (h _ (List.getElem_mem hlt))) hs
theorem item_tup {value slice : Expr} {t : Addr} {ys : List Value} {k : Int} {u : Tok} {Q : Value → Shared → Prop} (hT : IsTup s.heap t ys.toArray) (h0 : 0 ≤ k) (h1 : k < ys.length) (h2 : ys.length < 1000) (h : ∀ v ∈ ys, Q v s)
    (hs : subscripted slice false (.ref t) (.int k u) = operate [.ref t, .int k u] (getItem (.ref t) (.int k u))) : wpAny (model prog w) A (subscriptTail value slice (.ref t) (.int k u)) Q E s := by
  have hlt : k.toNat < ys.length := by omega
  refine item_tupleT (j := k.toNat) (x := ys[k.toNat]) hT (by omega) (by omega) ?_ (List.getElem?_eq_getElem hlt) (h _ (List.getElem_mem hlt)) hs
  unfold seqIndex?
  have e : ¬ (k < 0) := by omega
  simp [e]
  omega
end
theorem fmod_bounds (x : Int) {m : Int} (hm : 0 < m) : 0 ≤ x.fmod m ∧ x.fmod m < m := ⟨Int.fmod_nonneg_of_pos _ hm, Int.fmod_lt_of_pos _ hm⟩
section
theorem inner_spec {prog : Program} {w : World} {p : Program} {loose : List Str} {mean : ExcName → Option Value} {mg mb : Str → Option Value} {kind pick n : Int} {t1 t2 t3 : Tok} (hn0 : 0 ≤ n) (hn1 : n < 13)
    {dp un : Nat} {gd : Option (List Code)} {cn : Str} {cs : Scope} {a : Addr} {ccd : Value} {cl : List (Str × Addr)} {outer : List Env} {A₀ : Around} {base h₀ : Heap} {L : Addr} {m : Str → Option Value} {news : List (Addr × Obj)} {s : Shared} {Q E : Value → Shared → Prop}
    (B : Below A₀ base outer h₀) (F : Fr h₀ L s.heap m) (X : (hd.heap_39 w.params).In h₀) (N : News h₀ L s.heap news) (T : Top p loose mean mg mb h₀) (hk : cs.kind = .function) (hd1 : dp + 1 < recursionLimit) (hu : un + 8 < cLine)
    (hret : ∀ t wd tw v o h' tk', Entry wd o → OptIs v o → IsTup h' t #[.str wd tw, v] → Fr h₀ L h' m → News h₀ L h' news → Q (.ref t) { s with heap := h', toks := tk' }) :
    wpAny (model prog w) (ktrTop dp un gd cn cs L a ccd cl outer) (call (.ref 75) [.int kind t1, .int pick t2, .int n t3]) Q E s := by
  k_with_none
  k_with "table" => skip
  refine wpAny_call ?_
  k_dflt ktr_enter
  k_steps
  · exact hret _ _ _ _ none _ _ (bad_get _) .none (News.isTup (by k_asm) (by k_mem)) (by k_asm) (cb_drop (by k_asm) fun _ h => List.mem_cons_of_mem _ h)
  · exact hret _ _ _ _ (some 0) _ _ (zero_get (by assumption)) (.some _ _) (News.isTup (by k_asm) (by k_mem)) (by k_asm) (cb_drop (by k_asm) fun _ h => List.mem_cons_of_mem _ h)
  · obtain ⟨p0, p1⟩ := fmod_bounds pick (m := 4) (by decide)
    refine' item_some ?N3 ?m3 p0 ?b3 ?c3 ?d3 ?s3
    case N3 => k_asm
    case m3 => exact List.mem_cons_self
    case b3 => exact p1
    case c3 => exact Nat.le_of_ble_eq_true rfl
    case s3 => with_unfolding_all rfl
    intro v hv
    simp only [List.mem_cons, List.not_mem_nil, or_false] at hv
    rcases hv with rfl | rfl | rfl | rfl
    all_goals k_steps
    · exact hret _ _ _ _ (some n) _ _ (intStr_ok (by omega) (by omega)) (.some _ _) (News.isTup (by k_asm) (by k_mem)) (by k_asm) (cb_drop (by k_asm) fun _ h => List.mem_cons_of_mem _ (List.mem_cons_of_mem _ (List.mem_cons_of_mem _ (List.mem_cons_of_mem _ (List.mem_cons_of_mem _ h)))))
    · exact hret _ _ _ _ (some (-n)) _ _ (negStr_ok (by omega) (by omega)) (.some _ _) (News.isTup (by k_asm) (by k_mem)) (by k_asm) (cb_drop (by k_asm) fun _ h => List.mem_cons_of_mem _ (List.mem_cons_of_mem _ (List.mem_cons_of_mem _ (List.mem_cons_of_mem _ (List.mem_cons_of_mem _ h)))))
    · exact hret _ _ _ _ (some (n + 1)) _ _ (intStr_ok (by omega) (by omega)) (.some _ _) (News.isTup (by k_asm) (by k_mem)) (by k_asm) (cb_drop (by k_asm) fun _ h => List.mem_cons_of_mem _ (List.mem_cons_of_mem _ (List.mem_cons_of_mem _ (List.mem_cons_of_mem _ (List.mem_cons_of_mem _ h)))))
    · exact hret _ _ _ _ (some (-n - 1)) _ _ (neg_next hn0 hn1) (.some _ _) (News.isTup (by k_asm) (by k_mem)) (by k_asm) (cb_drop (by k_asm) fun _ h => List.mem_cons_of_mem _ (List.mem_cons_of_mem _ (List.mem_cons_of_mem _ (List.mem_cons_of_mem _ (List.mem_cons_of_mem _ h)))))
  · obtain ⟨p0, p1⟩ := fmod_bounds pick (m := 12) (by decide)
    refine' item_tup (ys := [.ref 47, .ref 48, .ref 49, .ref 50, .ref 51, .ref 52, .ref 53, .ref 54, .ref 55, .ref 56, .ref 57, .ref 58]) ?T4 p0 ?b4 ?c4 ?d4 ?s4
    case T4 => exact tupK (Frag.In.keeps (by k_asm) (Fr.keep (by k_asm))) (by k_is)
    case b4 => exact p1
    case c4 => exact Nat.le_of_ble_eq_true rfl
    case s4 => with_unfolding_all rfl
    intro v hv
    simp only [List.mem_cons, List.not_mem_nil, or_false] at hv
    rcases hv with rfl | rfl | rfl | rfl | rfl | rfl | rfl | rfl | rfl | rfl | rfl | rfl
    all_goals k_steps
    all_goals (
      refine hret _ _ _ _ (some _) _ _ ?_ (.some _ _) (tupK (l := [.str _ _, .int _ _]) (Frag.In.keeps X (Fr.keep (by k_asm))) (by k_is)) (by k_asm) (by k_asm)
      exact lits_get (by decide +kernel))
theorem last_spec {prog : Program} {w : World} {p : Program} {loose : List Str} {mean : ExcName → Option Value} {mg mb : Str → Option Value} {kind pick : Int} {t1 t2 : Tok}
    {dp un : Nat} {gd : Option (List Code)} {cn : Str} {cs : Scope} {a : Addr} {ccd : Value} {cl : List (Str × Addr)} {outer : List Env} {A₀ : Around} {base h₀ : Heap} {L : Addr} {m : Str → Option Value} {news : List (Addr × Obj)} {s : Shared} {Q E : Value → Shared → Prop}
    (B : Below A₀ base outer h₀) (F : Fr h₀ L s.heap m) (X : (hd.heap_39 w.params).In h₀) (N : News h₀ L s.heap news) (T : Top p loose mean mg mb h₀) (hk : cs.kind = .function) (hd1 : dp + 1 < recursionLimit) (hu : un + 8 < cLine)
    (hret : ∀ t wd tw v o h' tk', Entry wd o → OptIs v o → IsTup h' t #[.str wd tw, v] → Fr h₀ L h' m → News h₀ L h' news → Q (.ref t) { s with heap := h', toks := tk' }) :
    wpAny (model prog w) (ktrTop dp un gd cn cs L a ccd cl outer) (call (.ref 82) [.int kind t1, .int pick t2]) Q E s := by
  k_with_none
  k_with "table" => skip
  refine wpAny_call ?_
  k_dflt ktr_enter
  k_steps
  · exact hret _ _ _ _ none _ _ (bad_get _) .none (News.isTup (by k_asm) (by k_mem)) (by k_asm) (cb_drop (by k_asm) fun _ h => List.mem_cons_of_mem _ h)
  · obtain ⟨p0, p1⟩ := fmod_bounds pick (m := 12) (by decide)
    refine' item_tup (ys := [.ref 47, .ref 48, .ref 49, .ref 50, .ref 51, .ref 52, .ref 53, .ref 54, .ref 55, .ref 56, .ref 57, .ref 58]) ?T4 p0 ?b4 ?c4 ?d4 ?s4
    case T4 => exact tupK (Frag.In.keeps (by k_asm) (Fr.keep (by k_asm))) (by k_is)
    case b4 => exact p1
    case c4 => exact Nat.le_of_ble_eq_true rfl
    case s4 => with_unfolding_all rfl
    intro v hv
    simp only [List.mem_cons, List.not_mem_nil, or_false] at hv
    rcases hv with rfl | rfl | rfl | rfl | rfl | rfl | rfl | rfl | rfl | rfl | rfl | rfl
    all_goals k_steps
    all_goals (
      refine hret _ _ _ _ (some _) _ _ ?_ (.some _ _) (tupK (l := [.str _ _, .int _ _]) (Frag.In.keeps X (Fr.keep (by k_asm))) (by k_is)) (by k_asm) (by k_asm)
      exact lits_get (by decide +kernel))
  · exact hret _ _ _ _ (some 0) _ _ (zero_get (by assumption)) (.some _ _) (News.isTup (by k_asm) (by k_mem)) (by k_asm) (cb_drop (by k_asm) fun _ h => List.mem_cons_of_mem _ h)
end
end Mine
end

section
open PySem PySem.W PySem.Calls PySem.Spec PyProof.Rows
set_option maxRecDepth 100000
set_option maxHeartbeats 1000000
namespace Mine
/-- the words drawn so far and their worths -/
structure Words (ws : List (Str × Tok)) (vs : List Value) (os : List (Option Int)) : Prop where
  nums : (ws.map (·.1)).map numOf = os
  opts : OptsAre vs os
  ok : ∀ x ∈ ws.map (·.1), 32 ∉ x.cps.toList ∧ x.length ≤ 8
theorem Words.nil : Words [] [] [] := ⟨rfl, .nil, fun _ h => nomatch h⟩
theorem Words.snoc {ws : List (Str × Tok)} {vs : List Value} {os : List (Option Int)} {x : Str} {t : Tok} {v : Value} {o : Option Int} (h : Words ws vs os) (he : Entry x o) (hv : OptIs v o) : Words (ws ++ [(x, t)]) (vs ++ [v]) (os ++ [o]) := by
  refine ⟨?_, h.opts.snoc hv, ?_⟩
  · rw [List.map_append, List.map_append, h.nums]
    exact congrArg (os ++ ·) (congrArg (fun y => [y]) he.1)
  · intro y hy
    rw [List.map_append] at hy
    rcases List.mem_append.mp hy with hy | hy
    · exact h.ok y hy
    · rw [List.mem_singleton.mp hy]; exact he.2
def BlEnd (h₀ : Heap) (L va wa : Addr) (x : Str) (stored : List Str) (m₀ : Str → Option Value) (n : Nat) (own : List (Addr × Obj)) (s₁ : Shared) (Q : Flow → Shared → Prop) (f : Flow) (s₂ : Shared) : Prop :=
  match f with
  | .ret v => Q (.ret v) s₂
  | .brk => Q .next s₂
  | _ => ∃ h' tk m' news' ws vs os k1 k2, s₂ = { s₁ with heap := h', toks := tk } ∧ Fr h₀ L h' m' ∧ News h₀ L h' news' ∧ (∀ p ∈ (va, listOf vs.toArray k2) :: (wa, listOf (strValues ws).toArray k1) :: own, p ∈ news') ∧ ws.length = n + 1 ∧ Words ws vs os ∧ (∀ z, z ≠ x → stored.contains z = false → m' z = m₀ z)
section
variable {prog : Program} {w : World} {A : Around} {E : Value → Shared → Prop} {s : Shared} {env : Env} {h₀ : Heap} {x : Str} {body : List Stmt} {Q : Flow → Shared → Prop}
theorem build_loop {r : Addr} {b : Int} {t₀ u₀ v₀ : Tok} {m₀ : Str → Option Value} {va wa : Addr} {k1 k2 : Nat} (stored : List Str)
    (hh : A.handled = none) (hr : IsRange s.heap r 0 b 1 t₀ u₀ v₀) (hb0 : 0 ≤ b) (hb1 : b < 5) (F : Fr h₀ env.locals s.heap m₀) (N : News h₀ env.locals s.heap [(va, listOf #[] k2), (wa, listOf #[] k1)])
    (turn : ∀ (ws : List (Str × Tok)) (vs : List Value) (os : List (Option Int)) (k1 k2 : Nat) (i : Int) t (u : Str → Option Value) h tk own, 0 ≤ i → i < 5 → ws.length < 5 → Words ws vs os → OwnOff own [va, wa] →
      Fr h₀ env.locals h (fun y => if y = x then some (.int i t) else kstB (fun z => if stored.contains z then u z else m₀ z) [] y) → News h₀ env.locals h ((va, listOf vs.toArray k2) :: (wa, listOf (strValues ws).toArray k1) :: own) →
      wpAny (model prog w) A (execs body env) (BlEnd h₀ env.locals va wa x stored m₀ ws.length own { s with heap := h, toks := tk } Q) E { s with heap := h, toks := tk })
    (done : ∀ (ws : List (Str × Tok)) (vs : List Value) (os : List (Option Int)) (k1 k2 : Nat) (u : Str → Option Value) h tk, ws.length < 5 → Words ws vs os →
      Fr h₀ env.locals h (fun y => if y = x then u y else kstB (fun z => if stored.contains z then u z else m₀ z) [] y) → News h₀ env.locals h [(va, listOf vs.toArray k2), (wa, listOf (strValues ws).toArray k1)] → Q .next { s with heap := h, toks := tk }) :
    wpAny (model prog w) A (pyIter (.ref r)) (fun it s₂ => LoopAtV prog w A h₀ env x body Q E it s₂) E s := by
  have hn : Builtin.Range.rangeSize 0 b 1 = (b.toNat : Int) := by rw [rangeSize_one]; split <;> omega
  have hsm : Builtin.Range.small 0 b 1 = true := by
    have : b = 0 ∨ b = 1 ∨ b = 2 ∨ b = 3 ∨ b = 4 := by omega
    rcases this with rfl | rfl | rfl | rfl | rfl <;> decide +kernel
  refine kd_range (σ := List (Str × Tok) × List Value × List (Option Int) × Nat × Nat) (fun c => [(va, listOf c.2.1.toArray c.2.2.2.2), (wa, listOf (strValues c.1).toArray c.2.2.2.1)]) [] (fun _ => []) (fun _ _ => True) stored
    (fun pre c => c.1.length = pre.length ∧ Words c.1 c.2.1 c.2.2.1) [va, wa] ([], [], [], k1, k2) hh hr hsm hn F N ?_ (fun _ => rfl) trivial (List.forall_mem_nil _) ⟨rfl, .nil⟩ ?_ ?_
  · intro p hp
    exact hp
  · rintro ⟨ws, vs, os, k1, k2⟩ tl pre k t u h tk own hk hlt hsep hoff _ ⟨hl, hw⟩ F₁ N₁
    have hl9 : ws.length = pre.length := hl
    refine wpAny_mono (turn ws vs os k1 k2 k t u h tk (tl ++ own) (by omega) (by omega) (by omega) hw hoff F₁ N₁) (fun f s₂ p => ?_) fun _ _ e => e
    have up : (∃ h' tk' m' news' ws' vs' os' k1' k2', s₂ = { s with heap := h', toks := tk' } ∧ Fr h₀ env.locals h' m' ∧ News h₀ env.locals h' news' ∧ (∀ p ∈ (va, listOf vs'.toArray k2') :: (wa, listOf (strValues ws').toArray k1') :: (tl ++ own), p ∈ news') ∧ ws'.length = ws.length + 1 ∧ Words ws' vs' os' ∧ (∀ z, z ≠ x → stored.contains z = false → m' z = m₀ z)) →
        InvEndG h₀ env.locals (KdS (fun c : List (Str × Tok) × List Value × List (Option Int) × Nat × Nat => [(va, listOf c.2.1.toArray c.2.2.2.2), (wa, listOf (strValues c.1).toArray c.2.2.2.1)]) [] (fun _ => []) (fun _ _ => True) x stored m₀ (fun pre c => c.1.length = pre.length ∧ Words c.1 c.2.1 c.2.2.1) [va, wa] (pre ++ [k])) own { s with heap := h, toks := tk } s₂ := by
      rintro ⟨h', tk', m', news', ws', vs', os', k1', k2', rfl, F', N', hs, hl', hw', hr'⟩
      refine kd_end (tl := tl) (s₁ := { s with heap := h, toks := tk }) (ws', vs', os', k1', k2') [] hsep F' N' ?_ ?_ rfl (fun _ h => nomatch h) (fun _ h => nomatch h) (List.forall_mem_nil _) (fun z hz _ hc => hr' z hz hc) trivial ⟨?_, hw'⟩
      · intro q hq
        refine hs q ?_
        simp only [List.nil_append, List.cons_append, List.mem_cons, List.mem_append] at hq ⊢
        rcases hq with hq | hq | hq
        · exact .inl hq
        · exact .inr (.inl hq)
        · exact .inr (.inr (.inl hq))
      · exact fun q hq => hs q (List.mem_cons_of_mem _ (List.mem_cons_of_mem _ (List.mem_append_right _ hq)))
      · show ws'.length = (pre ++ [k]).length
        have hl0 : ws.length = pre.length := hl
        rw [hl', List.length_append, hl0]
        rfl
    cases f with
    | ret v => exact p
    | brk => exact p
    | next => exact up p
    | cont => exact up p
  · rintro ⟨ws, vs, os, k1, k2⟩ tl u h tk _ _ ⟨hl, hw⟩ F₁ N₁
    have hl' : ws.length = (rangeKs 0 b.toNat).length := hl
    rw [rangeKs_length] at hl'
    exact done ws vs os k1 k2 u h tk (by omega) hw F₁ (fun q hq => N₁ q (List.mem_append_left _ hq))
end
end Mine
end

section
open PySem PySem.W PySem.Calls PySem.Spec PyProof.Rows
set_option maxRecDepth 100000
namespace Mine
theorem strValues_snoc (ws : List (Str × Tok)) (x : Str) (t : Tok) : strValues (ws ++ [(x, t)]) = strValues ws ++ [.str x t] := by simp [strValues]
theorem Words.sizes {ws : List (Str × Tok)} {vs : List Value} {os : List (Option Int)} (h : Words ws vs os) (hl : ws.length < 50) : (strValues ws).toArray.size ≤ sizeLine ∧ vs.toArray.size ≤ sizeLine ∧ os.length = ws.length := by
  have e : os.length = ws.length := by rw [← h.nums, List.length_map, List.length_map]
  refine ⟨?_, ?_, e⟩
  · have : (strValues ws).toArray.size = ws.length := by simp [strValues]
    rw [this, sizeLine_eq]; omega
  · rw [List.size_toArray, h.opts.length, e, sizeLine_eq]; omega
theorem push_word (ws : List (Str × Tok)) (x : Str) (t : Tok) : (strValues ws).toArray.push (.str x t) = (strValues (ws ++ [(x, t)])).toArray := by simp [strValues]
theorem push_val (vs : List Value) (v : Value) : vs.toArray.push v = (vs ++ [v]).toArray := by simp
theorem sum_le {l : List Str} (h : ∀ x ∈ l, x.length ≤ 8) : (l.map (·.length)).sum ≤ 8 * l.length := by
  induction l with
  | nil => simp
  | cons x r ih =>
    have h1 := h x List.mem_cons_self
    have h2 := ih fun y hy => h y (List.mem_cons_of_mem _ hy)
    simp only [List.map_cons, List.sum_cons, List.length_cons]
    omega
theorem sp_len : (Str.ofString " ").length = 1 := by decide +kernel
theorem join_is (l : List Str) : Txt.join (Str.ofString " ") l = Str.join sp l := by
  show Builtin.Str.glued (Str.ofString " ") l = _
  rw [StrLaws.glued_eq_join, sp_is]
/-- the law's line: its words come back, and what is read is what is due -/
theorem words_line {ws : List (Str × Tok)} {vs : List Value} {os : List (Option Int)} (h : Words ws vs os) (hl : ws.length < 50) (hne : ws ≠ []) :
    JoinOk (Str.ofString " ") (ws.map (·.1)) = true ∧ (Txt.join (Str.ofString " ") (ws.map (·.1))).length ≤ 1000 ∧ (∀ x ∈ Txt.split (Txt.join (Str.ofString " ") (ws.map (·.1))) (Str.ofString " "), x.length ≤ 8) ∧
      ∀ n, readW (Txt.split (Txt.join (Str.ofString " ") (ws.map (·.1))) (Str.ofString " ")) n = due os n := by
  have hs := sum_le fun x hx => (h.ok x hx).2
  rw [List.length_map] at hs
  have hj := StrLaws.join_length_le sp (ws.map (·.1))
  rw [List.length_map] at hj
  have hsp : sp.length = 1 := rfl
  have e : Txt.split (Txt.join (Str.ofString " ") (ws.map (·.1))) (Str.ofString " ") = ws.map (·.1) := by
    rw [join_is, sp_is]
    exact split_join (by simpa using hne) fun x hx => (h.ok x hx).1
  refine ⟨joinOk_of ?_, ?_, ?_, ?_⟩
  · rw [List.length_map, sp_len]; omega
  · rw [join_is]
    rw [hsp] at hj
    omega
  · rw [e]; exact fun x hx => (h.ok x hx).2
  · intro n
    rw [e, read_due, h.nums]
/-- the canonical text, and the way back -/
theorem back_line {n : Int} {ls : List Int} (hn : n < 13) (hl : lawful n ls = true) (hc : ls.length < 50) :
    (textFrom (Str.ofString "") ls ++ Str.ofString "0").length ≤ 1000 ∧ (∀ x ∈ Txt.split (textFrom (Str.ofString "") ls ++ Str.ofString "0") (Str.ofString " "), x.length ≤ 8) ∧
      readW (Txt.split (textFrom (Str.ofString "") ls ++ Str.ofString "0") (Str.ofString " ")) n = some ls := by
  have hb := lit_bounds hn hl
  have e0 : Str.ofString "" = Str.empty := by decide +kernel
  have hlen := textFrom_len ls (Str.ofString "") hb
  have l0 : (Str.ofString "").length = 0 := by decide +kernel
  have l1 : (Str.ofString "0").length = 1 := by decide +kernel
  refine ⟨?_, ?_, ?_⟩
  · rw [Str.length_append, l1]; omega
  · rw [e0, textFrom_join, nil_app, sp_is, split_join (by simp) (by
      intro p hp
      rcases List.mem_append.mp hp with hp | hp
      · obtain ⟨i, hi, rfl⟩ := List.mem_map.mp hp
        exact (intStr_ok (hb i hi).1 (hb i hi).2).2.1
      · rw [List.mem_singleton.mp hp]; exact zero1_ok.2.1)]
    intro p hp
    rcases List.mem_append.mp hp with hp | hp
    · obtain ⟨i, hi, rfl⟩ := List.mem_map.mp hp
      exact (intStr_ok (hb i hi).1 (hb i hi).2).2.2
    · rw [List.mem_singleton.mp hp]; exact zero1_ok.2.2
  · rw [e0, sp_is]
    exact read_back hn hl
theorem text_next {ns : List Int} {i : Nat} {k : Int} {c : Str} (h : c = textFrom (Str.ofString "") (ns.take i)) (ht : ns.take (i + 1) = ns.take i ++ [k]) : c ++ Str.ofString (toString k) ++ Str.ofString " " = textFrom (Str.ofString "") (ns.take (i + 1)) := by
  rw [ht, h, sp_is]
  unfold textFrom
  rw [List.foldl_append]
  rfl
theorem bl_off {x y z : Str} {a b v : Value} {u m₀ : Str → Option Value} : ∀ q, q ≠ x → [y, z].contains q = false → (if q = z then some b else if q = y then some a else if q = x then some v else kstB (fun q => if [y, z].contains q then u q else m₀ q) [] q) = m₀ q := by
  intro q hq hc
  have hy : q ≠ y := by rintro rfl; simp at hc
  have hz : q ≠ z := by rintro rfl; simp at hc
  rw [if_neg hz, if_neg hy, if_neg hq]
  show (if [y, z].contains q then u q else m₀ q) = m₀ q
  rw [hc]
  rfl
section
variable {prog : Program} {w : World} {A : Around} {E : Value → Shared → Prop} {s : Shared}
/-- a list is no text -/
theorem eq_list_str {D : Addr} {vs : List Value} {ns : List Int} {x : Str} {t : Tok} {Q : Value → Shared → Prop} (hl : s.heap.IsList D vs.toArray) (hi : IntsAre vs ns) (hx : PyData.strOk x = true) (hu : A.units + 64 < cLine) (h : Q (.bool false) s) :
    wpAny (model prog w) A (compareOp .Eq (.ref D) (.str x t)) Q E s := by
  refine eq_dataH (db := .str x) (reads_of_ints hl hi) (.str x t) (shaped_ints ns) (by simp [SeqAt.shaped, PyData.canLay0, PyData.depth, hx]) hu ?_
  have e : PyData.eqv (.list (ns.map PyData.int)) (.str x) = false := by simp [PyData.eqv]
  rw [e]
  exact h
end
end Mine
end

section
open PySem PySem.W PySem.Calls PySem.Spec PyProof.Rows
set_option maxRecDepth 100000
namespace Mine
theorem law_facts {os : List (Option Int)} {n : Int} {ls : List Int} (eD : due os n = some ls) (h : os.length ≤ 50) : lawful n ls = true ∧ ls.length < 50 := by
  have h1 := congrArg List.length (due_lits eD).2.1
  have h0 : os ≠ [] := by
    rintro rfl
    exact nomatch (due_lits eD).1
  have h2 := List.length_pos_iff.mpr h0
  rw [List.length_dropLast, List.length_map] at h1
  exact ⟨(due_lits eD).2.2, by omega⟩
theorem lit_facts {n : Int} {ls : List Int} {k : Int} {i : Nat} {c : Str} (hn : n < 13) (hl : lawful n ls = true) (hc : ls.length < 50) (hm : k ∈ ls) (hp : c = textFrom (Str.ofString "") (ls.take i)) :
    -16 ≤ k ∧ k < 16 ∧ (Str.ofString (toString k)).length ≤ 8 ∧ c.length ≤ 450 := by
  have hb := lit_bounds hn hl
  have hk := hb k hm
  have l0 : (Str.ofString "").length = 0 := by decide +kernel
  have h1 := textFrom_len (ls.take i) (Str.ofString "") fun j hj => hb j (List.mem_of_mem_take hj)
  have h2 : (ls.take i).length ≤ ls.length := List.length_take_le' _ _
  rw [← hp] at h1
  exact ⟨hk.1, hk.2, (intStr_ok hk.1 hk.2).2.2, by omega⟩
theorem back_text {n : Int} {ls : List Int} {c : Str} (hn : n < 13) (hl : lawful n ls = true) (hc : ls.length < 50) (hp : c = textFrom (Str.ofString "") ls) :
    c.length ≤ 450 ∧ (c ++ Str.ofString "0").length ≤ 1000 ∧ (∀ x ∈ Txt.split (c ++ Str.ofString "0") (Str.ofString " "), x.length ≤ 8) ∧ readW (Txt.split (c ++ Str.ofString "0") (Str.ofString " ")) n = some ls := by
  subst hp
  have l0 : (Str.ofString "").length = 0 := by decide +kernel
  have h1 := textFrom_len ls (Str.ofString "") (lit_bounds hn hl)
  exact ⟨by omega, back_line hn hl hc⟩
theorem tx_off {x y : Str} {v v' a : Value} {u m₀ : Str → Option Value} : ∀ z, z ≠ x → (∀ p ∈ [(y, v')], z ≠ p.1) → ([] : List Str).contains z = false →
    (if z = y then some v' else if z = x then some a else kstB (fun z => if ([] : List Str).contains z then u z else m₀ z) [(y, v)] z) = m₀ z := by
  intro z hz hy _
  have hy' : z ≠ y := hy _ List.mem_cons_self
  rw [if_neg hy', if_neg hz]
  unfold kstB
  rw [if_neg hy']
  rfl
theorem tx_at {y : Str} {v : Value} {r : Str → Option Value} : ∀ p ∈ [(y, v)], (fun z => if z = y then some v else r z) p.1 = some p.2 := by
  intro p hp
  rw [List.mem_singleton.mp hp]
  exact if_pos rfl
section
variable {prog : Program} {w : World} {A : Around} {E : Value → Shared → Prop} {s : Shared}
theorem ne_same {a b : Addr} {vs us : List Value} {ns : List Int} {Q : Value → Shared → Prop} (hl : s.heap.IsList a vs.toArray) (hi : IntsAre vs ns) (hl' : s.heap.IsList b us.toArray) (hi' : IntsAre us ns) (hu : A.units + 64 < cLine)
    (h : Q (.bool false) s) : wpAny (model prog w) A (compareOp .NotEq (.ref a) (.ref b)) Q E s := by
  refine ne_intsK hl hi hl' hi' hu ?_
  rw [decide_eq_true rfl]
  exact h
end
end Mine
end

section
open PySem PySem.W PySem.Calls PySem.Spec PyProof.Rows
set_option maxRecDepth 100000
set_option maxHeartbeats 4000000
set_option pp.deepTerms false
set_option pp.maxSteps 1500
namespace Mine
section
local macro_rules | `(tactic| walk_at "call builtin:list.append") => `(tactic| k_extra "append")
local macro_rules | `(tactic| walk_at "call builtin:str.join") => `(tactic| k_extra "join")
local macro_rules | `(tactic| walk_at "call ref") => `(tactic| k_extra "call ref")
local macro_rules | `(tactic| walk_at "pyIter ref") => `(tactic| k_extra "pyIter ref")
local macro_rules | `(tactic| walk_at "compareOp NotEq ref ref") => `(tactic| k_extra "lists")
local macro_rules | `(tactic| walk_at "compareOp Eq ref str") => `(tactic| k_extra "no text")
local macro_rules | `(tactic| walk_at "exec For Name Name cons nil") => `(tactic| (k_here; (rename Fr _ _ _ _ => lF'); (with_unfolding_all refine' For_invVF lF' ?k1 ?k2 ?_; (case k1 => exact rfl); (case k2 => exact rfl); k_whole)))
local macro_rules | `(tactic| walk_at "RlEnd") => `(tactic| ((with_reducible show RlEnd _ _ _ _ _ _ _ _ _ _ _ _ (Flow.ret _) _); dsimp only [RlEnd]))
local macro_rules | `(tactic| walk_at "call type:range") => `(tactic| ((rename Fr _ _ _ _ => F'); (rename News _ _ _ _ => N'); (with_unfolding_all refine range1_rows F' N' ?_; intro _ _ _ _ _ _ _ _ _)))
theorem law_holds : PySem.Challenge.rw_pd_verdict_1_01.Holds := by
  refine hd ?_
  k_go0
  all_goals try k_fold
  k_with_none
  -- the words are drawn
  k_with "pyIter ref" => ((with_reducible show wpAny _ _ (pyIter _) (fun it s₂ => LoopAtV _ _ _ _ _ (Str.ofString "i") _ _ _ it s₂) _ _); refine' build_loop [Str.ofString "word", Str.ofString "worth"] ?hh8 ?hr8 ?h08 ?h18 ?hF8 ?hN8 ?turn8 ?done8; (case hh8 => rfl); (case hr8 => k_asm); (case h08 => exact (fmod_bounds _ (by decide)).1); (case h18 => exact (fmod_bounds _ (by decide)).2); (case hF8 => k_asm); (case hN8 => k_asm); (case' turn8 => (intro ws8 vs8 os8 ka8 kb8 i8 t8 u8 h8 tk8 own8 hi8 hj8 hl8 hw8 ho8 F8 N8; obtain ⟨hz8, hy8, hx8⟩ := hw8.sizes (by omega))); (case' done8 => (intro ws8 vs8 os8 ka8 kb8 u8 h8 tk8 hl8 hw8 F8 N8; obtain ⟨hz8, hy8, hx8⟩ := hw8.sizes (by omega))))
  k_with "call ref" => (k_dflt (refine' inner_spec ?n05 ?n15 ?B5 ?F5 ?X5 ?N5 ?T5 ?hk5 ?hd5 ?hu5 ?hr5; (case B5 => k_asm); (case F5 => k_asm); (case X5 => k_asm); (case N5 => k_asm); (case T5 => k_asm); (case hk5 => rfl); (case hd5 => k_room); (case hu5 => k_units); (case n05 => exact (fmod_bounds _ (by decide)).1); (case n15 => exact (fmod_bounds _ (by decide)).2); (case' hr5 => (intro t5 wd5 tw5 v5 o5 h5 tk5 he5 hv5 hT5 F5 N5))))
  k_with "append" => (k_dflt (refine' append_K ?F4 ?N4 ?U4 ?_ ?z4; (case F4 => k_asm); (case N4 => k_asm); (case U4 => k_upd); (case z4 => assumption)); intro h4 F4 N4; (try simp only [push_val] at N4))
  -- the last word; the line; what is due
  k_with "call ref" => (k_dflt (refine' last_spec ?B3 ?F3 ?X3 ?N3 ?T3 ?hk3 ?hd3 ?hu3 ?hr3; (case B3 => k_asm); (case F3 => k_asm); (case X3 => k_asm); (case N3 => k_asm); (case T3 => k_asm); (case hk3 => rfl); (case hd3 => k_room); (case hu3 => k_units); (case' hr3 => (intro t3 wd3 tw3 v3 o3 h3 tk3 he3 hv3 hT3 F3 N3; have hw3 := hw8.snoc (t := tw3) he3 hv3; obtain ⟨hok3, hln3, hws3, hkey3⟩ := words_line hw3 (by simp only [List.length_append, List.length_cons, List.length_nil]; omega) (by simp)))))
  k_with "call ref" => (k_dflt (refine' due_spec ?B2 ?F2 ?X2 ?N2 ?T2 ?hk2 ?hd2 ?hu2 ?hl2 ?ho2 ?hne2 ?hsz2 ?hlist2 ?href2; (case B2 => k_asm); (case F2 => k_asm); (case X2 => k_asm); (case N2 => k_asm); (case T2 => k_asm); (case hk2 => rfl); (case hd2 => k_room); (case hu2 => k_units); (case ho2 => exact hw3.opts); (case hl2 => k_mem); (case hne2 => simp); (case hsz2 => (simp only [List.length_append, List.length_cons, List.length_nil]; omega)); (case' hlist2 => (intro D2 us2 ls2 k2 h2 tk2 eD iD F2 N2)); (case' href2 => (intro t2 h2 tk2 eD F2 N2))))
  k_with "join" => (refine SC.join (l := ws8 ++ [(wd3, tw3)]) (by rw [strValues_snoc]; exact News.isList (by k_asm) (by k_mem)) rfl hok3 ?_; intro t1 k1)
  k_with "call ref" => (k_dflt (refine' read_spec hln3 hws3 ?B1 ?F1 ?X1 ?N1 ?T1 ?XB1 ?TB1 ?hk1 ?hd1 ?hu1 ?_ ?_; (case B1 => k_asm); (case F1 => k_asm); (case X1 => k_asm); (case N1 => k_asm); (case T1 => k_asm); (case XB1 => k_asm); (case TB1 => k_asm); (case hk1 => rfl); (case hd1 => k_room); (case hu1 => k_units); (all_goals first | (intro D1 us1 ls1 kk1 h1 tk1 eR iR F1 N1; have e9 := eR.symm.trans ((hkey3 _).trans eD); first | (cases e9; done) | (have e8 := Option.some.inj e9; subst e8; obtain ⟨hlaw, hcount⟩ := law_facts eD (by simp only [List.length_append, List.length_cons, List.length_nil]; omega))) | (intro t1 h1 tk1 eR F1 N1; have e9 := eR.symm.trans ((hkey3 _).trans eD); first | (cases e9; done) | skip) | skip)))
  -- an accepted line: the text, the formula, the way back
  k_with "lists" => (refine ne_same (News.isList (by k_asm) (by k_mem)) iR (News.isList (by k_asm) (by k_mem)) iD (by k_units) ?_)
  k_with "no text" => (refine eq_list_str (News.isList (by k_asm) (by k_mem)) iD (by decide +kernel) (by k_units) ?_)
  k_with "pyIter ref" => ((with_reducible show wpAny _ _ (pyIter _) (fun it s₂ => LoopAtV _ _ _ _ _ (Str.ofString "lit") _ _ _ it s₂) _ _); refine' read_loop (fun c : Str × Tok => [(Str.ofString "text", Value.str c.1 c.2)]) [] (fun i c => c.1 = textFrom (Str.ofString "") (List.take i ls1)) (Str.ofString "", ?t9) ?hh9 (vs := us1) ?hl9 ?hF9 ?hN9 ?hk9 ?hp9 ?turn9 ?done9; (case hh9 => rfl); (case hF9 => k_asm); (case hN9 => k_asm); (case hl9 => k_mem); (case hk9 => exact List.forall_mem_cons.mpr ⟨by with_unfolding_all rfl, List.forall_mem_nil _⟩); (case hp9 => rfl); (case' turn9 => (intro c9 i9 v9 u9 h9 tk9 own9 hv9 ho9 hp9 F9 N9; obtain ⟨k9, t9', e9', ht9, hm9⟩ := int_at iR hv9; subst e9'; obtain ⟨cx9, ct9⟩ := c9; obtain ⟨hk91, hk92, hs9, hz9⟩ := lit_facts (fmod_bounds _ (by decide)).2 hlaw hcount hm9 hp9)); (case' done9 => (intro c9 u9 h9 tk9 hp9 F9 N9; obtain ⟨cx9, ct9⟩ := c9; rw [iR.length, List.take_length] at hp9; obtain ⟨hz9, hln9, hws9, hkey9⟩ := back_text (c := cx9) (fmod_bounds _ (by decide)).2 hlaw hcount hp9)))
  k_with "call ref" => (k_dflt (refine' isf_spec ?B7 ?F7 ?X7 ?N7 ?T7 ?hk7 ?hd7 ?hu7 ?hcc7 ?hD7 iR ?hr7; (case B7 => k_asm); (case F7 => k_asm); (case X7 => k_asm); (case N7 => k_asm); (case T7 => k_asm); (case hk7 => rfl); (case hd7 => k_room); (case hu7 => k_units); (case hcc7 => k_mem); (case hD7 => k_mem); (case' hr7 => (intro b7 h7 tk7 eb7 F7 N7; rw [hlaw] at eb7; subst eb7))))
  k_with "call ref" => (k_dflt (refine' read_spec hln9 hws9 ?B6 ?F6 ?X6 ?N6 ?T6 ?XB6 ?TB6 ?hk6 ?hd6 ?hu6 ?_ ?_; (case B6 => k_asm); (case F6 => k_asm); (case X6 => k_asm); (case N6 => k_asm); (case T6 => k_asm); (case XB6 => k_asm); (case TB6 => k_asm); (case hk6 => rfl); (case hd6 => k_room); (case hu6 => k_units); (all_goals first | (intro D6 us6 ls6 kk6 h6 tk6 eR6 iR6 F6 N6; have e6 := hkey9.symm.trans eR6; have e7 := Option.some.inj e6; subst e7) | (intro t6 h6 tk6 eR6 F6 N6; have e6 := hkey9.symm.trans eR6; cases e6; done) | skip)))
  k_with "lists" => (refine ne_same (News.isList (by k_asm) (by k_mem)) iR6 (News.isList (by k_asm) (by k_mem)) iD (by k_units) ?_)
  k_steps
  · refine ⟨_, _, _, _, (cx9 ++ Str.ofString (toString k9) ++ Str.ofString " ", ?tok), rfl, by assumption, by assumption, fun _ h => h, ?at9, ?off9, ?next9⟩
    case at9 =>
      intro p hp
      cases List.mem_singleton.mp hp
      exact if_pos rfl
    case off9 =>
      intro z hz hy hc
      exact tx_off z hz hy hc
    case next9 => exact text_next hp9 ht9
  · refine ⟨_, _, _, _, ws8 ++ [(wd5, tw5)], vs8 ++ [v5], os8 ++ [o5], ka8 + 1, kb8 + 1, rfl, F4, N4, ?_, ?_, hw8.snoc he5 hv5, bl_off⟩
    · rw [strValues_snoc]; exact fun _ h => h
    · simp
end
end Mine
end

theorem PySem.Challenge.cw_pd_verdict_1_01_holds : PySem.Challenge.rw_pd_verdict_1_01.Holds :=
  Mine.law_holds
